-- Laid by gen.py of this session (over the kit's printing program): what the law FnExactUnsurt reaches, as Lean functions, and that Go comes to just that.
import Derived.Test.YtcplgnikihjilaaGreatDoorGFnExactUnsurtx0
import Derived.Test.YtcplgnikihjilaaGreatDoorGFnExactUnsurtx7
import Derived.Test.YtcplgnikihjilaaGreatDoorGFnExactUnsurtx8
import Derived.Test.YtcplgnikihjilaaGreatDoorGFnExactUnsurtx9
import Derived.Test.YtcplgnikihjilaaGreatDoorZFnExactUnsurt
namespace Go.Proofs.YtcplgnikihjilaaGreatDoor.GFnExactUnsurt
open Go.RowKit Go.Proofs.YtcplgnikihjilaaGreatDoorW.PrintWords Go.Proofs.YtcplgnikihjilaaGreatDoorW.PrintLast Go.Proofs.YtcplgnikihjilaaGreatDoorW.PrintMore Go.Proofs.YtcplgnikihjilaaGreatDoorW.Zs
attribute [local go_sem] max2_int min2_int max_two min_two max_three min_three max_four min_four   -- for this text's walks alone
set_option linter.unusedVariables false
set_option linter.unusedSimpArgs false

/-! ### impl_all__impl_isVisible: function 33 at a function value -/
def impl_all__impl_isVisible.l0 : Nat → ByteArray → Int → Option (Bool)
 | 0, _, _ => none
 | k + 1, x0, x5 => if x5 < (x0.size : Int) then (if 0 ≤ x5 then ((impl_isVisible.f (bt x0 x5)).bind fun t236 => (if t236 = true then (impl_all__impl_isVisible.l0 k x0 (wrap64 (x5 + 1))) else (some false))) else (none)) else (some true)
def impl_all__impl_isVisible.f (k : Nat) (a0 : ByteArray) : Option (Bool) := impl_all__impl_isVisible.l0 k a0 0
theorem impl_all__impl_isVisible.mono_l : ∀ k, (∀ y0 y1, LeO (impl_all__impl_isVisible.l0 k y0 y1) (impl_all__impl_isVisible.l0 (k + 1) y0 y1))
 | 0 => fun _ _ r h => by simp [impl_all__impl_isVisible.l0] at h
 | k + 1 => by
  have ih0 := impl_all__impl_isVisible.mono_l k
  ·intro y0 y1
   unfold impl_all__impl_isVisible.l0
   repeat' first | (with_reducible first | exact ih0 _ _ | exact LeO.refl _ | exact LeO.none _ | refine LeO.ite ?_ ?_ | refine LeO.bind ?_ (fun _ => ?_)) | exact ih0 _ _ | exact LeO.none _ | refine LeO.ite ?_ ?_ | refine LeO.bind ?_ (fun _ => ?_)
theorem impl_all__impl_isVisible.mono : ∀ a0 k, LeO (impl_all__impl_isVisible.f k a0) (impl_all__impl_isVisible.f (k + 1) a0) := by
 intro a0 k
 have ih0 := impl_all__impl_isVisible.mono_l k
 unfold impl_all__impl_isVisible.f
 repeat' first | (with_reducible first | exact ih0 _ _ | exact LeO.refl _ | exact LeO.none _ | refine LeO.ite ?_ ?_ | refine LeO.bind ?_ (fun _ => ?_)) | exact ih0 _ _ | exact LeO.none _ | refine LeO.ite ?_ ?_ | refine LeO.bind ?_ (fun _ => ?_)
set_option maxHeartbeats 8000000 in
set_option maxRecDepth 100000 in
theorem impl_all__impl_isVisible.calls (k : Nat) (a0 : ByteArray) (r : Bool) (w : World) (h : impl_all__impl_isVisible.f k a0 = some r) :
  Calls Tryz.prog 33 #[.string a0, .func (.func 34) #[] #[]] w fun e w' => e = .returned (.bool r) ∧ Drawn0 w w' := by
 have H : (impl_all__impl_isVisible.l0 k a0 0) = some r := h
 clear h
 have H' := Aside0.mk H
 clear H
 go_enter Tryz.func33, Tryz.ntmps33
 go_wp2
 go_loopg [5] k (fun kq v5 w' => ∃ (x5_1 : Int), v5 = .int .i64 x5_1 ∧ Aside0 (impl_all__impl_isVisible.l0 kq a0 x5_1 = some r) ∧ Aside0 (kq ≤ k) ∧ Drawn0 w w')
 case atStart => exact ⟨(0), z2, H', ⟨Nat.le_refl _⟩, z7⟩
 case round =>
  clear H'
  obtain ⟨x5_1, rfl, HA, HK1, ⟨m1, rfl⟩⟩ := hrel
  cases gk with
  | zero => exact absurd HA.out (by simp [impl_all__impl_isVisible.l0])
  | succ k1 =>
   have H := HA.out
   clear HA
   simp only [impl_all__impl_isVisible.l0] at H
   by_cases c2 : x5_1 < (a0.size : Int)
   ·rw [if_pos c2] at H
    have c2b0 : decide (x5_1 < (a0.size : Int)) = true := decide_eq_true c2
    clear c2
    by_cases c3 : 0 ≤ x5_1
    ·rw [if_pos c3] at H
     have c3b0 : decide (0 ≤ x5_1) = true := decide_eq_true c3
     clear c3
     replace H := Option.bind_eq_some_iff.mp H
     obtain ⟨t236, A50, H⟩ := H
     try dsimp only at H
     have A5 := Aside0.mk A50
     clear A50
     by_cases c6 : t236 = true
     ·subst c6
      rw [if_pos rfl] at H
      have H' := Aside0.mk H
      clear H
      have p4 : 0 ≤ (x5_1 : Int) := of_decide_eq_true z1
      have q4 : x5_1 < (a0.size : Int) := of_decide_eq_true z1
      have hx4 := bt_at a0 x5_1
      replace p4 := eq_true p4
      replace q4 := eq_true q4
      go_wp2_with (first | (go_at_call 34; (with_reducible refine (impl_isVisible.calls (bt a0 x5_1) true _ A5.out).mono ?_); rintro e w' ⟨rfl, ⟨nd, rfl⟩⟩))
      go_roundg k1
      case measure => have := HK1.out; omega
      case rel => exact ⟨(wrap64 (x5_1 + 1)), z2, H', ⟨z64⟩, z7⟩
     ·replace c6 := Bool.eq_false_iff.mpr c6
      subst c6
      rw [if_neg Bool.false_ne_true] at H
      obtain rfl := Option.some.inj H
      have p4 : 0 ≤ (x5_1 : Int) := of_decide_eq_true z1
      have q4 : x5_1 < (a0.size : Int) := of_decide_eq_true z1
      have hx4 := bt_at a0 x5_1
      replace p4 := eq_true p4
      replace q4 := eq_true q4
      go_wp2_with (first | (go_at_call 34; (with_reducible refine (impl_isVisible.calls (bt a0 x5_1) false _ A5.out).mono ?_); rintro e w' ⟨rfl, ⟨nd, rfl⟩⟩))
      go_ret
      exact ⟨z2, z7⟩
    ·rw [if_neg c3] at H
     exact absurd H (by simp)
   ·rw [if_neg c2] at H
    have c2b0 : decide (x5_1 < (a0.size : Int)) = false := decide_eq_false c2
    clear c2
    obtain rfl := Option.some.inj H
    go_wp2
    go_ret
    exact ⟨z2, z7⟩

theorem impl_CleanPath_ownB (A : Option Addr) (n c : Nat) : (Value.slice A n c).ownBlock = A.map Addr.block := by cases A <;> rfl
/-! ### impl_CleanPath: function 19 -/
mutual
def impl_CleanPath.j0 : Nat → ByteArray → Bool → Option (ByteArray)
 | 0, _, _ => none
 | k + 1, x0, x24 => if x24 = true then (some (⟨#[]⟩ : ByteArray)) else ((impl_unescaped.f k x0).bind fun t240 => (if 1 ≤ (t240.size : Int) then ((strings_Split.f (t240.extract 1 t240.size) (⟨#[47]⟩ : ByteArray)).bind fun t241 => (impl_CleanPath.l0 k ([] : List ByteArray) t241 t241 (t241.length : Int) 0)) else (none)))
def impl_CleanPath.l0 : Nat → List ByteArray → List ByteArray → List ByteArray → Int → Int → Option (ByteArray)
 | 0, _, _, _, _, _ => none
 | k + 1, x3, x4, x29, x30, x31 => if x31 < x30 then (if 0 ≤ x31 then (if x31 < (x29.length : Int) then (if (rdOf ByteArray.empty x29 x31).toList = ([46] : List UInt8) then (impl_CleanPath.l0 k x3 x4 x29 x30 (wrap64 (x31 + 1))) else (if (rdOf ByteArray.empty x29 x31).toList = ([46, 46] : List UInt8) then (if 0 ≤ (mx 0 (wrap64 ((x3.length : Int) - 1))) then (if (mx 0 (wrap64 ((x3.length : Int) - 1))) ≤ (x3.length : Int) then (impl_CleanPath.l0 k (x3.take ((mx 0 (wrap64 ((x3.length : Int) - 1))) : Int).toNat) x4 x29 x30 (wrap64 (x31 + 1))) else (none)) else (none)) else (if x3.length < 8796093022208 then (impl_CleanPath.l0 k (x3 ++ [rdOf ByteArray.empty x29 x31]) x4 x29 x30 (wrap64 (x31 + 1))) else (none)))) else (none)) else (none)) else (if 0 ≤ (wrap64 ((x4.length : Int) - 1)) then (if (wrap64 ((x4.length : Int) - 1)) < (x4.length : Int) then (if (rdOf ByteArray.empty x4 (wrap64 ((x4.length : Int) - 1))).toList = ([46] : List UInt8) then (if x3.length < 8796093022208 then ((strings_Join.f (x3 ++ [(⟨#[]⟩ : ByteArray)]) (⟨#[47]⟩ : ByteArray)).bind fun t248 => (if 1 + t248.size ≤ 9223372036854775807 then (some ((⟨#[47]⟩ : ByteArray) ++ t248)) else (none))) else (none)) else (if (rdOf ByteArray.empty x4 (wrap64 ((x4.length : Int) - 1))).toList = ([46, 46] : List UInt8) then (if x3.length < 8796093022208 then ((strings_Join.f (x3 ++ [(⟨#[]⟩ : ByteArray)]) (⟨#[47]⟩ : ByteArray)).bind fun t252 => (if 1 + t252.size ≤ 9223372036854775807 then (some ((⟨#[47]⟩ : ByteArray) ++ t252)) else (none))) else (none)) else ((strings_Join.f x3 (⟨#[47]⟩ : ByteArray)).bind fun t253 => (if 1 + t253.size ≤ 9223372036854775807 then (some ((⟨#[47]⟩ : ByteArray) ++ t253)) else (none))))) else (none)) else (none))
end
def impl_CleanPath.f (k : Nat) (a0 : ByteArray) : Option (ByteArray) := (strings_HasPrefix.f a0 (⟨#[47]⟩ : ByteArray)).bind fun t237 => (if t237 = true then (if (a0.size : Int) > 200 then (impl_CleanPath.j0 k a0 true) else ((impl_all__impl_isVisible.f k a0).bind fun t238 => (if t238 = true then ((strings_ContainsAny.f a0 (⟨#[35, 63]⟩ : ByteArray)).bind fun t239 => (impl_CleanPath.j0 k a0 t239)) else (impl_CleanPath.j0 k a0 true)))) else (impl_CleanPath.j0 k a0 true))
theorem impl_CleanPath.mono_l : ∀ k, (∀ y0 y1, LeO (impl_CleanPath.j0 k y0 y1) (impl_CleanPath.j0 (k + 1) y0 y1)) ∧ (∀ y0 y1 y2 y3 y4, LeO (impl_CleanPath.l0 k y0 y1 y2 y3 y4) (impl_CleanPath.l0 (k + 1) y0 y1 y2 y3 y4))
 | 0 => ⟨fun _ _ r h => by simp [impl_CleanPath.j0] at h, fun _ _ _ _ _ r h => by simp [impl_CleanPath.l0] at h⟩
 | k + 1 => by
  obtain ⟨ih0, ih1⟩ := impl_CleanPath.mono_l k
  refine ⟨?_, ?_⟩
  ·intro y0 y1
   unfold impl_CleanPath.j0
   repeat' first | (with_reducible first | exact ih0 _ _ | exact ih1 _ _ _ _ _ | exact impl_all__impl_isVisible.mono _ _ | exact impl_unescaped.mono _ _ | exact LeO.refl _ | exact LeO.none _ | refine LeO.ite ?_ ?_ | refine LeO.bind ?_ (fun _ => ?_)) | exact ih0 _ _ | exact ih1 _ _ _ _ _ | exact impl_all__impl_isVisible.mono _ _ | exact impl_unescaped.mono _ _ | exact LeO.none _ | refine LeO.ite ?_ ?_ | refine LeO.bind ?_ (fun _ => ?_)
  ·intro y0 y1 y2 y3 y4
   unfold impl_CleanPath.l0
   repeat' first | (with_reducible first | exact ih0 _ _ | exact ih1 _ _ _ _ _ | exact impl_all__impl_isVisible.mono _ _ | exact impl_unescaped.mono _ _ | exact LeO.refl _ | exact LeO.none _ | refine LeO.ite ?_ ?_ | refine LeO.bind ?_ (fun _ => ?_)) | exact ih0 _ _ | exact ih1 _ _ _ _ _ | exact impl_all__impl_isVisible.mono _ _ | exact impl_unescaped.mono _ _ | exact LeO.none _ | refine LeO.ite ?_ ?_ | refine LeO.bind ?_ (fun _ => ?_)
theorem impl_CleanPath.mono : ∀ a0 k, LeO (impl_CleanPath.f k a0) (impl_CleanPath.f (k + 1) a0) := by
 intro a0 k
 obtain ⟨ih0, ih1⟩ := impl_CleanPath.mono_l k
 unfold impl_CleanPath.f
 repeat' first | (with_reducible first | exact ih0 _ _ | exact ih1 _ _ _ _ _ | exact impl_all__impl_isVisible.mono _ _ | exact impl_unescaped.mono _ _ | exact LeO.refl _ | exact LeO.none _ | refine LeO.ite ?_ ?_ | refine LeO.bind ?_ (fun _ => ?_)) | exact ih0 _ _ | exact ih1 _ _ _ _ _ | exact impl_all__impl_isVisible.mono _ _ | exact impl_unescaped.mono _ _ | exact LeO.none _ | refine LeO.ite ?_ ?_ | refine LeO.bind ?_ (fun _ => ?_)
set_option maxHeartbeats 8000000 in
set_option maxRecDepth 100000 in
theorem impl_CleanPath.calls (k : Nat) (a0 : ByteArray) (r : ByteArray) (w : World) (hG : Gl w) (h : impl_CleanPath.f k a0 = some r) :
  Calls Tryz.prog 19 #[.string a0] w fun e w' => e = .returned (.string r) ∧ Below w.heap.size w w' := by
 have HG := Aside0.mk hG
 clear hG
 have HB := Aside0.mk (Below.refl w.heap.size w)
 have H : ((strings_HasPrefix.f a0 (⟨#[47]⟩ : ByteArray)).bind fun t237 => (if t237 = true then (if (a0.size : Int) > 200 then (impl_CleanPath.j0 k a0 true) else ((impl_all__impl_isVisible.f k a0).bind fun t238 => (if t238 = true then ((strings_ContainsAny.f a0 (⟨#[35, 63]⟩ : ByteArray)).bind fun t239 => (impl_CleanPath.j0 k a0 t239)) else (impl_CleanPath.j0 k a0 true)))) else (impl_CleanPath.j0 k a0 true))) = some r := h
 clear h
 have HC2 := Aside0.mk H
 clear H
 go_enter Tryz.func19, Tryz.ntmps19
 go_upto_region 1 with (fail)
 go_cut [24] (fun v24 wc => ∃ (kq : Nat) (x24_1 : Bool), v24 = .bool x24_1 ∧ Aside0 (impl_CleanPath.j0 kq a0 x24_1 = some r) ∧ Aside0 (kq ≤ k) ∧ Aside0 (Below w.heap.size w wc))
 case first =>
  have H := HC2.out
  clear HC2
  replace H := Option.bind_eq_some_iff.mp H
  obtain ⟨t237, A30, H⟩ := H
  try dsimp only at H
  have A3 := Aside0.mk A30
  clear A30
  by_cases c4 : t237 = true
  ·subst c4
   rw [if_pos rfl] at H
   by_cases c5 : (a0.size : Int) > 200
   ·rw [if_pos c5] at H
    have c5b0 : decide (200 < (a0.size : Int)) = true := decide_eq_true c5
    have c5b1 : decide (200 < a0.size) = true := decide_eq_true (by omega)
    clear c5
    (first | rw [c5b0] | (simp only [i64_w, i32_w]; rw [c5b0]) | skip)
    have H' := Aside0.mk H
    clear H
    go_wp2_with (first | ((with_reducible refine gate_callee (f := 57) rfl ?_); refine goesQ_ 9 Tryz.func57 #[.string a0, .string (⟨#[47]⟩ : ByteArray)] ?_; (with_reducible refine (strings_HasPrefix.calls a0 (⟨#[47]⟩ : ByteArray) true _ A3.out).mono ?_); rintro e w' ⟨rfl, ⟨nd, rfl⟩⟩; refine ⟨_, rfl, ?_⟩))
    go_meet
    case rel => exact ⟨_, (true), z2, H', ⟨z28⟩, ⟨z0⟩⟩
   ·rw [if_neg c5] at H
    have c5b0 : decide (200 < (a0.size : Int)) = false := decide_eq_false c5
    have c5b1 : decide (200 < a0.size) = false := decide_eq_false (by omega)
    clear c5
    (first | rw [c5b0] | (simp only [i64_w, i32_w]; rw [c5b0]) | skip)
    replace H := Option.bind_eq_some_iff.mp H
    obtain ⟨t238, A60, H⟩ := H
    try dsimp only at H
    have A6 := Aside0.mk A60
    clear A60
    by_cases c7 : t238 = true
    ·subst c7
     rw [if_pos rfl] at H
     replace H := Option.bind_eq_some_iff.mp H
     obtain ⟨t239, A80, H⟩ := H
     try dsimp only at H
     have A8 := Aside0.mk A80
     clear A80
     have H' := Aside0.mk H
     clear H
     go_wp2_with (first | ((with_reducible refine gate_callee (f := 57) rfl ?_); refine goesQ_ 9 Tryz.func57 #[.string a0, .string (⟨#[47]⟩ : ByteArray)] ?_; (with_reducible refine (strings_HasPrefix.calls a0 (⟨#[47]⟩ : ByteArray) true _ A3.out).mono ?_); rintro e w' ⟨rfl, ⟨nd, rfl⟩⟩; refine ⟨_, rfl, ?_⟩) | (go_at_call 33; (with_reducible refine (impl_all__impl_isVisible.calls k a0 true _ A6.out).mono ?_); rintro e w' ⟨rfl, ⟨nd, rfl⟩⟩) | (go_at_call 58; (with_reducible refine (strings_ContainsAny.calls a0 (⟨#[35, 63]⟩ : ByteArray) t239 _ A8.out).mono ?_); rintro e w9 ⟨rfl, hb⟩; have n0_ := Aside0.mk (below_step z0 hb); clear HB; have HB := n0_; clear n0_; (try clear hb); (try clear hb2); (try clear hk); (try clear hi)))
     go_meet
     case rel => exact ⟨_, (t239), z2, H', ⟨z28⟩, ⟨z0⟩⟩
    ·replace c7 := Bool.eq_false_iff.mpr c7
     subst c7
     rw [if_neg Bool.false_ne_true] at H
     have H' := Aside0.mk H
     clear H
     go_wp2_with (first | ((with_reducible refine gate_callee (f := 57) rfl ?_); refine goesQ_ 9 Tryz.func57 #[.string a0, .string (⟨#[47]⟩ : ByteArray)] ?_; (with_reducible refine (strings_HasPrefix.calls a0 (⟨#[47]⟩ : ByteArray) true _ A3.out).mono ?_); rintro e w' ⟨rfl, ⟨nd, rfl⟩⟩; refine ⟨_, rfl, ?_⟩) | (go_at_call 33; (with_reducible refine (impl_all__impl_isVisible.calls k a0 false _ A6.out).mono ?_); rintro e w' ⟨rfl, ⟨nd, rfl⟩⟩))
     go_meet
     case rel => exact ⟨_, (true), z2, H', ⟨z28⟩, ⟨z0⟩⟩
  ·replace c4 := Bool.eq_false_iff.mpr c4
   subst c4
   rw [if_neg Bool.false_ne_true] at H
   have H' := Aside0.mk H
   clear H
   go_wp2_with (first | ((with_reducible refine gate_callee (f := 57) rfl ?_); refine goesQ_ 9 Tryz.func57 #[.string a0, .string (⟨#[47]⟩ : ByteArray)] ?_; (with_reducible refine (strings_HasPrefix.calls a0 (⟨#[47]⟩ : ByteArray) false _ A3.out).mono ?_); rintro e w' ⟨rfl, ⟨nd, rfl⟩⟩; refine ⟨_, rfl, ?_⟩))
   go_meet
   case rel => exact ⟨_, (true), z2, H', ⟨z28⟩, ⟨z0⟩⟩
 case rest =>
  clear HC2
  try clear c1
  try clear p2
  try clear c4
  try clear c5
  try clear c5b0
  try clear c5b1
  try clear c7
  obtain ⟨kq, x24_1, rfl, HA, HJ1, HB⟩ := hcut
  cases kq with
  | zero => exact absurd HA.out (by simp [impl_CleanPath.j0])
  | succ kj1 =>
   have H := HA.out
   clear HA
   simp only [impl_CleanPath.j0] at H
   by_cases c10 : x24_1 = true
   ·subst c10
    rw [if_pos rfl] at H
    obtain rfl := Option.some.inj H
    go_wp2
    go_ret
    exact ⟨z4, z0⟩
   ·replace c10 := Bool.eq_false_iff.mpr c10
    subst c10
    rw [if_neg Bool.false_ne_true] at H
    replace H := Option.bind_eq_some_iff.mp H
    obtain ⟨t240, A110, H⟩ := H
    try dsimp only at H
    have A11 := Aside0.mk A110
    clear A110
    by_cases c12 : 1 ≤ (t240.size : Int)
    ·rw [if_pos c12] at H
     have c12b0 := eq_true c12
     have c12b1 : decide (1 ≤ (t240.size : Int)) = true := decide_eq_true c12
     clear c12
     replace H := Option.bind_eq_some_iff.mp H
     obtain ⟨t241, A130, H⟩ := H
     try dsimp only at H
     have A13 := Aside0.mk A130
     clear A130
     have H' := Aside0.mk H
     clear H
     go_wp2_with (first | ((with_reducible refine gate_callee (f := 59) rfl ?_); refine goesQ_ 26 Tryz.func59 #[.string a0] ?_; (with_reducible refine (impl_unescaped.calls kj1 a0 t240 _ A11.out).mono ?_); rintro e w14 ⟨rfl, hb⟩; refine ⟨_, rfl, ?_⟩; replace HB := Aside0.mk (below_step z0 hb); (try clear hb)) | ((with_reducible refine gate_callee (f := 46) rfl ?_); refine goesQ_ 28 Tryz.func46 #[.string (t240.extract 1 t240.size), .string (⟨#[47]⟩ : ByteArray)] ?_; (with_reducible refine (strings_Split.calls (t240.extract 1 t240.size) (⟨#[47]⟩ : ByteArray) t241 _ ?side1 A13.out).mono ?_); (case side1 => exact Gl.below HG.out z0); rintro e w15 ⟨v242, rfl, ho0, hb⟩; refine ⟨_, rfl, ?_⟩; have HO243 := Aside0.mk (Kd.R_lower ho0 (below_size z0)); replace HB := Aside0.mk (below_step z0 hb); (try clear hb); (try clear ho0); obtain ⟨Ao16, co16, eo16⟩ := Kd.R_slice HO243.out; subst eo16))
     go_loopg [3, 31] kj1 (fun kq v3 v31 w' => ∃ (x3_2 : List ByteArray) (x31_2 : Int), v31 = .int .i64 x31_2 ∧ Aside0 (impl_CleanPath.l0 kq x3_2 t241 t241 (t241.length : Int) x31_2 = some r) ∧ Aside0 (kq ≤ kj1) ∧ Aside0 (Kd.R Kd.string 9 w' w.heap.size (fun k_ => some k_ ≠ ((.slice Ao16 t241.length co16) : Value).ownBlock ∧ some k_ ≠ ((.slice Ao16 t241.length co16) : Value).ownBlock) v3 x3_2) ∧ Aside0 (Kd.R Kd.string 9 w' w.heap.size (fun k_ => some k_ ≠ (v3 : Value).ownBlock) (.slice Ao16 t241.length co16) t241) ∧ Aside0 (Kd.R Kd.string 9 w' w.heap.size (fun k_ => some k_ ≠ (v3 : Value).ownBlock) (.slice Ao16 t241.length co16) t241) ∧ Aside0 (Below w.heap.size w w'))
     case atStart => exact ⟨(([] : List ByteArray)), (0), z2, H', ⟨Nat.le_refl _⟩, ⟨z41⟩, ⟨z76⟩, ⟨z76⟩, ⟨z0⟩⟩
     case round =>
      clear H'
      try clear c1
      try clear p2
      try clear c4
      try clear c5
      try clear c5b0
      try clear c5b1
      try clear c7
      try clear c10
      try clear c12
      try clear c12b0
      try clear c12b1
      try clear p2
      obtain ⟨x3_2, x31_2, rfl, HA, HK2, HO_3, HO_4, HO_29, HB⟩ := hrel
      cases gk with
      | zero => exact absurd HA.out (by simp [impl_CleanPath.l0])
      | succ k2 =>
       have H := HA.out
       clear HA
       simp only [impl_CleanPath.l0] at H
       by_cases c17 : x31_2 < (t241.length : Int)
       ·rw [if_pos c17] at H
        have c17b0 : decide (x31_2 < (t241.length : Int)) = true := decide_eq_true c17
        clear c17
        by_cases c18 : 0 ≤ x31_2
        ·rw [if_pos c18] at H
         have c18b0 : decide (0 ≤ x31_2) = true := decide_eq_true c18
         clear c18
         by_cases c19 : x31_2 < (t241.length : Int)
         ·rw [if_pos c19] at H
          have c19b0 : decide (x31_2 < (t241.length : Int)) = true := decide_eq_true c19
          clear c19
          by_cases c20 : (rdOf ByteArray.empty t241 x31_2).toList = ([46] : List UInt8)
          ·rw [if_pos c20] at H
           have c20b0 : ((rdOf ByteArray.empty t241 x31_2).toList == ([46] : List UInt8)) = true := beq_iff_eq.mpr c20
           have c20b1 : ((rdOf ByteArray.empty t241 x31_2).toList != ([46] : List UInt8)) = false := bne_eq_false_iff_eq.mpr c20
           clear c20
           have H' := Aside0.mk H
           clear H
           have p254 : 0 ≤ (x31_2 : Int) := of_decide_eq_true z1
           have q254 : x31_2 < (t241.length : Int) := of_decide_eq_true z1
           obtain ⟨ad254, e254, hx254_0⟩ := Kd.at_string (Kd.R_reads' HO_29.out).2.2 x31_2 p254 q254
           cases e254
           replace p254 := eq_true p254
           replace q254 := eq_true q254
           go_wp2
           go_roundg k2
           case measure => have := HJ1.out; have := HK2.out; omega
           case rel => exact ⟨(x3_2), (wrap64 (x31_2 + 1)), z2, H', ⟨z66⟩, ⟨by (with_reducible repeat (first | apply Kd.R_alloc | apply Kd.R_drewN | apply Kd.R_drew)); first | exact HO_3.out | exact Kd.R_mono HO_3.out (fun _ hk_ => z62)⟩, ⟨z82⟩, ⟨z81⟩, ⟨z0⟩⟩
          ·rw [if_neg c20] at H
           have c20b0 : ((rdOf ByteArray.empty t241 x31_2).toList == ([46] : List UInt8)) = false := beq_eq_false_iff_ne.mpr c20
           have c20b1 : ((rdOf ByteArray.empty t241 x31_2).toList != ([46] : List UInt8)) = true := bne_iff_ne.mpr c20
           by_cases c21 : (rdOf ByteArray.empty t241 x31_2).toList = ([46, 46] : List UInt8)
           ·rw [if_pos c21] at H
            have c21b0 : ((rdOf ByteArray.empty t241 x31_2).toList == ([46, 46] : List UInt8)) = true := beq_iff_eq.mpr c21
            have c21b1 : ((rdOf ByteArray.empty t241 x31_2).toList != ([46, 46] : List UInt8)) = false := bne_eq_false_iff_eq.mpr c21
            clear c21
            obtain ⟨ji22, hji22⟩ : ∃ j_ : Int, (mx 0 (wrap64 ((x3_2.length : Int) - 1))) = j_ := ⟨_, rfl⟩
            replace H : (if 0 ≤ (ji22) then (if (ji22) ≤ (x3_2.length : Int) then (impl_CleanPath.l0 k2 (x3_2.take ((ji22) : Int).toNat) t241 t241 (t241.length : Int) (wrap64 (x31_2 + 1))) else (none)) else (none)) = some r := by first | (rw [hji22] at H; exact H) | (simp only [hji22] at H ⊢; exact H)
            have hji22_ : (if 0 < (wrap64 ((x3_2.length : Int) - 1)) then (wrap64 ((x3_2.length : Int) - 1)) else 0) = ji22 := hji22
            by_cases c23 : 0 ≤ (ji22)
            ·rw [if_pos c23] at H
             have c23b0 := eq_true c23
             have c23b1 : decide (0 ≤ (ji22)) = true := decide_eq_true c23
             clear c23
             by_cases c24 : (ji22) ≤ (x3_2.length : Int)
             ·rw [if_pos c24] at H
              have c24b0 := eq_true c24
              have c24b1 : decide ((ji22) ≤ (x3_2.length : Int)) = true := decide_eq_true c24
              clear c24
              obtain ⟨y255, hy255⟩ : ∃ y_ : List ByteArray, y_ = (x3_2.take ((ji22) : Int).toNat) := ⟨_, rfl⟩
              replace H : (impl_CleanPath.l0 k2 y255 t241 t241 (t241.length : Int) (wrap64 (x31_2 + 1))) = some r := by first | (rw [hy255]; with_reducible exact H) | (have H2_ := (Option.bind_some _ _).symm.trans H; rw [hy255]; with_reducible exact H2_) | (have H2_ := (Option.bind_some _ _).symm.trans H; with_reducible exact H2_) | with_reducible exact H | (rw [hy255]; exact H) | exact H
              have Ny255 := Aside0.mk hy255
              clear hy255
              have H' := Aside0.mk H
              clear H
              have p254 : 0 ≤ (x31_2 : Int) := of_decide_eq_true z1
              have q254 : x31_2 < (t241.length : Int) := of_decide_eq_true z1
              obtain ⟨ad254, e254, hx254_0⟩ := Kd.at_string (Kd.R_reads' HO_29.out).2.2 x31_2 p254 q254
              cases e254
              replace p254 := eq_true p254
              replace q254 := eq_true q254
              obtain ⟨Ao25, co25, eo25⟩ := Kd.R_slice HO_3.out
              subst eo25
              have q26 : ((ji22) : Int) ≤ ((x3_2.length : Int) : Int) := of_decide_eq_true z1
              obtain ⟨i026, hi026, _, hsz26, _⟩ := info_parts info9
              have hcut26 := cut_to (P := Tryz.prog) 55 9 .i64 Tryz.underlying55 hi026 Ao25 x3_2.length co25 (ji22) (of_decide_eq_true z1) q26 (Kd.R_reads' HO_3.out).2.1
              have hr26 := Kd.R_take (m := ((ji22) : Int).toNat) HO_3.out (by omega)
              have hy26 : y255.length = ((ji22) : Int).toNat := (by rw [Ny255.out, List.length_take]; omega)
              rw [← Ny255.out] at hr26
              rw [← hy26] at hr26 hcut26
              clear hy26 hi026 hsz26 HO_3
              have HO257 := Aside0.mk hr26
              clear hr26
              replace q26 := eq_true q26
              go_wp2
              go_roundg k2
              case measure => have := HJ1.out; have := HK2.out; omega
              case rel => exact ⟨(y255), (wrap64 (x31_2 + 1)), z2, H', ⟨z66⟩, ⟨by (with_reducible repeat (first | apply Kd.R_alloc | apply Kd.R_drewN | apply Kd.R_drew)); first | exact HO257.out | exact Kd.R_mono HO257.out (fun _ hk_ => z62)⟩, ⟨z82⟩, ⟨z81⟩, ⟨z0⟩⟩
             ·rw [if_neg c24] at H
              exact absurd H (by simp)
            ·rw [if_neg c23] at H
             exact absurd H (by simp)
           ·rw [if_neg c21] at H
            have c21b0 : ((rdOf ByteArray.empty t241 x31_2).toList == ([46, 46] : List UInt8)) = false := beq_eq_false_iff_ne.mpr c21
            have c21b1 : ((rdOf ByteArray.empty t241 x31_2).toList != ([46, 46] : List UInt8)) = true := bne_iff_ne.mpr c21
            by_cases c27 : x3_2.length < 8796093022208
            ·rw [if_pos c27] at H
             have LMc27 := Aside0.mk c27
             clear c27
             obtain ⟨y258, hy258⟩ : ∃ y_ : List ByteArray, y_ = (x3_2 ++ [rdOf ByteArray.empty t241 x31_2]) := ⟨_, rfl⟩
             replace H : (impl_CleanPath.l0 k2 y258 t241 t241 (t241.length : Int) (wrap64 (x31_2 + 1))) = some r := by first | (rw [hy258]; with_reducible exact H) | (have H2_ := (Option.bind_some _ _).symm.trans H; rw [hy258]; with_reducible exact H2_) | (have H2_ := (Option.bind_some _ _).symm.trans H; with_reducible exact H2_) | with_reducible exact H | (rw [hy258]; exact H) | exact H
             have Ny258 := Aside0.mk hy258
             clear hy258
             have H' := Aside0.mk H
             clear H
             have p254 : 0 ≤ (x31_2 : Int) := of_decide_eq_true z1
             have q254 : x31_2 < (t241.length : Int) := of_decide_eq_true z1
             obtain ⟨ad254, e254, hx254_0⟩ := Kd.at_string (Kd.R_reads' HO_29.out).2.2 x31_2 p254 q254
             cases e254
             replace p254 := eq_true p254
             replace q254 := eq_true q254
             go_wp2_with (first | ((with_reducible refine gate_builtin (b := .append) (xs := #[.tmp 36, .tmp 38]) rfl ?_); (try (refine gate_guard (by rfl) ?_; dsimp only)); at_builtin; refine Kd.R_append Kd.string (w0 := w) w.heap.size rfl (.tmp 36) (.tmp 38) 55 9 (.string ⟨#[]⟩) 16 rfl Tryz.underlying55 info9 rfl (by decide) (by omega) u3 x3_2 (rdOf ByteArray.empty t241 x31_2) [.string (rdOf ByteArray.empty t241 x31_2)] (fun k_ => some k_ ≠ (.slice (some ad254) t241.length co16 : Value).ownBlock ∧ some k_ ≠ (.slice (some ad254) t241.length co16 : Value).ownBlock) (fun _ => False) rfl rfl ?aP (fun _ hk => hk.elim) ?aF ?aO ?aB ?aS ?aL ?_; (case aP => exact rfl); (case aB => exact z0); (case aF => exact (fun k_ hk => ⟨Kd.fresh' (Kd.R_lt z36) k_ hk, Kd.fresh' (Kd.R_lt z43) k_ hk⟩)); (case aO => exact z11); (case aS => exact (below_size z0)); (case aL => have := LMc27.out; omega); intro v259 w28 ho hb hg hat; rw [← Ny258.out] at ho; replace HO_4 := Aside0.mk (Kd.R_after (ok := (fun _ => True)) z40 hg hat); replace HO_29 := Aside0.mk (Kd.R_after (ok := (fun _ => True)) z58 hg hat); replace HB := Aside0.mk (hb); have HO260 := Aside0.mk (ho); clear HO_3; clear ho hb hg hat))
             go_roundg k2
             case measure => have := HJ1.out; have := HK2.out; omega
             case rel => exact ⟨(y258), (wrap64 (x31_2 + 1)), z2, H', ⟨z66⟩, ⟨by (with_reducible repeat (first | apply Kd.R_alloc | apply Kd.R_drewN | apply Kd.R_drew)); first | exact HO260.out | exact Kd.R_mono HO260.out (fun _ hk_ => z62)⟩, ⟨z60⟩, ⟨by (with_reducible repeat (first | apply Kd.R_alloc | apply Kd.R_drewN | apply Kd.R_drew)); exact Kd.R_mono HO_29.out (fun _ hk => hk.2)⟩, ⟨z0⟩⟩
            ·rw [if_neg c27] at H
             exact absurd H (by simp)
         ·rw [if_neg c19] at H
          exact absurd H (by simp)
        ·rw [if_neg c18] at H
         exact absurd H (by simp)
       ·rw [if_neg c17] at H
        have c17b0 : decide (x31_2 < (t241.length : Int)) = false := decide_eq_false c17
        clear c17
        obtain ⟨ji29, hji29⟩ : ∃ j_ : Int, (wrap64 ((t241.length : Int) - 1)) = j_ := ⟨_, rfl⟩
        replace H : (if 0 ≤ (ji29) then (if (ji29) < (t241.length : Int) then (if (rdOf ByteArray.empty t241 (ji29)).toList = ([46] : List UInt8) then (if x3_2.length < 8796093022208 then ((strings_Join.f (x3_2 ++ [(⟨#[]⟩ : ByteArray)]) (⟨#[47]⟩ : ByteArray)).bind fun t248 => (if 1 + t248.size ≤ 9223372036854775807 then (some ((⟨#[47]⟩ : ByteArray) ++ t248)) else (none))) else (none)) else (if (rdOf ByteArray.empty t241 (ji29)).toList = ([46, 46] : List UInt8) then (if x3_2.length < 8796093022208 then ((strings_Join.f (x3_2 ++ [(⟨#[]⟩ : ByteArray)]) (⟨#[47]⟩ : ByteArray)).bind fun t252 => (if 1 + t252.size ≤ 9223372036854775807 then (some ((⟨#[47]⟩ : ByteArray) ++ t252)) else (none))) else (none)) else ((strings_Join.f x3_2 (⟨#[47]⟩ : ByteArray)).bind fun t253 => (if 1 + t253.size ≤ 9223372036854775807 then (some ((⟨#[47]⟩ : ByteArray) ++ t253)) else (none))))) else (none)) else (none)) = some r := by first | (rw [hji29] at H; exact H) | (simp only [hji29] at H ⊢; exact H)
        have hji29w : (IntKind.i64.wrap ((t241.length : Int) - 1)) = ji29 := (i64_w _).trans hji29
        by_cases c30 : 0 ≤ (ji29)
        ·rw [if_pos c30] at H
         have c30b0 : decide (0 ≤ (ji29)) = true := decide_eq_true c30
         clear c30
         by_cases c31 : (ji29) < (t241.length : Int)
         ·rw [if_pos c31] at H
          have c31b0 : decide ((ji29) < (t241.length : Int)) = true := decide_eq_true c31
          clear c31
          by_cases c32 : (rdOf ByteArray.empty t241 (ji29)).toList = ([46] : List UInt8)
          ·rw [if_pos c32] at H
           have c32b0 : ((rdOf ByteArray.empty t241 (ji29)).toList == ([46] : List UInt8)) = true := beq_iff_eq.mpr c32
           have c32b1 : ((rdOf ByteArray.empty t241 (ji29)).toList != ([46] : List UInt8)) = false := bne_eq_false_iff_eq.mpr c32
           clear c32
           by_cases c33 : x3_2.length < 8796093022208
           ·rw [if_pos c33] at H
            have LMc33 := Aside0.mk c33
            clear c33
            obtain ⟨y245, hy245⟩ : ∃ y_ : List ByteArray, y_ = (x3_2 ++ [(⟨#[]⟩ : ByteArray)]) := ⟨_, rfl⟩
            replace H : ((strings_Join.f y245 (⟨#[47]⟩ : ByteArray)).bind fun t248 => (if 1 + t248.size ≤ 9223372036854775807 then (some ((⟨#[47]⟩ : ByteArray) ++ t248)) else (none))) = some r := by first | (rw [hy245]; with_reducible exact H) | (have H2_ := (Option.bind_some _ _).symm.trans H; rw [hy245]; with_reducible exact H2_) | (have H2_ := (Option.bind_some _ _).symm.trans H; with_reducible exact H2_) | with_reducible exact H | (rw [hy245]; exact H) | exact H
            have Ny245 := Aside0.mk hy245
            clear hy245
            replace H := Option.bind_eq_some_iff.mp H
            obtain ⟨t248, A340, H⟩ := H
            try dsimp only at H
            have A34 := Aside0.mk A340
            clear A340
            by_cases c35 : 1 + t248.size ≤ 9223372036854775807
            ·rw [if_pos c35] at H
             have c35b0 := eq_true c35
             have c35b1 : decide (1 + t248.size ≤ 9223372036854775807) = true := decide_eq_true c35
             try have c35b2 : (9223372036854775807 < 1 + t248.size) = False := eq_false (Nat.not_lt.2 c35)
             obtain rfl := Option.some.inj H
             have p244 : 0 ≤ ((ji29) : Int) := of_decide_eq_true z1
             have q244 : (ji29) < (t241.length : Int) := of_decide_eq_true z1
             obtain ⟨ad244, e244, hx244_0⟩ := Kd.at_string (Kd.R_reads' HO_4.out).2.2 (ji29) p244 q244
             cases e244
             replace p244 := eq_true p244
             replace q244 := eq_true q244
             go_wp2_with (first | ((with_reducible refine gate_builtin (b := .append) (xs := #[.tmp 63, .tmp 64]) rfl ?_); (try (refine gate_guard (by rfl) ?_; dsimp only)); at_builtin; refine Kd.R_append Kd.string (w0 := w) w.heap.size rfl (.tmp 63) (.tmp 64) 55 9 (.string ⟨#[]⟩) 16 rfl Tryz.underlying55 info9 rfl (by decide) (by omega) u3 x3_2 (⟨#[]⟩ : ByteArray) [.string (⟨#[]⟩ : ByteArray)] (fun k_ => some k_ ≠ (.slice (some ad244) t241.length co16 : Value).ownBlock ∧ some k_ ≠ (.slice (some ad244) t241.length co16 : Value).ownBlock) (fun _ => False) rfl rfl ?aP (fun _ hk => hk.elim) ?aF ?aO ?aB ?aS ?aL ?_; (case aP => exact rfl); (case aB => exact z0); (case aF => exact (fun k_ hk => ⟨Kd.fresh' (Kd.R_lt z36) k_ hk, Kd.fresh' (Kd.R_lt z43) k_ hk⟩)); (case aO => exact z11); (case aS => exact (below_size z0)); (case aL => have := LMc33.out; omega); intro v246 w36 ho hb hg hat; rw [← Ny245.out] at ho; replace HO_4 := Aside0.mk (Kd.R_after (ok := (fun _ => True)) z40 hg hat); replace HO_29 := Aside0.mk (Kd.R_after (ok := (fun _ => True)) z58 hg hat); replace HB := Aside0.mk (hb); have HO247 := Aside0.mk (ho); clear HO_3; clear ho hb hg hat; obtain ⟨Ao37, co37, eo37⟩ := Kd.R_slice HO247.out; subst eo37) | ((with_reducible refine gate_callee (f := 44) rfl ?_); refine goesQ_ 67 Tryz.func44 #[.slice Ao37 y245.length co37, .string (⟨#[47]⟩ : ByteArray)] ?_; (with_reducible refine (strings_Join.calls _ _ y245 (⟨#[47]⟩ : ByteArray) t248 _ ?side1 ?side2 A34.out).mono ?_); (case side1 => repeat (first | exact (Kd.R_reads' HO247.out).2.2 | (with_reducible refine Kd.C_alloc ?_ _) | (with_reducible refine Kd.C_drewN ?_ _) | (with_reducible refine Kd.C_drew ?_))); (case side2 => exact (Kd.R_reads' HO247.out).2.1); rintro e w38 ⟨rfl, hb⟩; refine ⟨_, rfl, ?_⟩; replace HO_4 := Aside0.mk (Kd.R_below z36 hb); replace HO_29 := Aside0.mk (Kd.R_below z43 hb); replace HO247 := Aside0.mk (Kd.R_below (by (with_reducible repeat (first | apply Kd.R_alloc | apply Kd.R_drewN | apply Kd.R_drew)); exact HO247.out) hb); replace HB := Aside0.mk (below_step z0 hb); (try clear hb)))
             go_ret
             exact ⟨z54, z0⟩
            ·rw [if_neg c35] at H
             exact absurd H (by simp)
           ·rw [if_neg c33] at H
            exact absurd H (by simp)
          ·rw [if_neg c32] at H
           have c32b0 : ((rdOf ByteArray.empty t241 (ji29)).toList == ([46] : List UInt8)) = false := beq_eq_false_iff_ne.mpr c32
           have c32b1 : ((rdOf ByteArray.empty t241 (ji29)).toList != ([46] : List UInt8)) = true := bne_iff_ne.mpr c32
           by_cases c39 : (rdOf ByteArray.empty t241 (ji29)).toList = ([46, 46] : List UInt8)
           ·rw [if_pos c39] at H
            have c39b0 : ((rdOf ByteArray.empty t241 (ji29)).toList == ([46, 46] : List UInt8)) = true := beq_iff_eq.mpr c39
            have c39b1 : ((rdOf ByteArray.empty t241 (ji29)).toList != ([46, 46] : List UInt8)) = false := bne_eq_false_iff_eq.mpr c39
            clear c39
            by_cases c40 : x3_2.length < 8796093022208
            ·rw [if_pos c40] at H
             have LMc40 := Aside0.mk c40
             clear c40
             obtain ⟨y249, hy249⟩ : ∃ y_ : List ByteArray, y_ = (x3_2 ++ [(⟨#[]⟩ : ByteArray)]) := ⟨_, rfl⟩
             replace H : ((strings_Join.f y249 (⟨#[47]⟩ : ByteArray)).bind fun t252 => (if 1 + t252.size ≤ 9223372036854775807 then (some ((⟨#[47]⟩ : ByteArray) ++ t252)) else (none))) = some r := by first | (rw [hy249]; with_reducible exact H) | (have H2_ := (Option.bind_some _ _).symm.trans H; rw [hy249]; with_reducible exact H2_) | (have H2_ := (Option.bind_some _ _).symm.trans H; with_reducible exact H2_) | with_reducible exact H | (rw [hy249]; exact H) | exact H
             have Ny249 := Aside0.mk hy249
             clear hy249
             replace H := Option.bind_eq_some_iff.mp H
             obtain ⟨t252, A410, H⟩ := H
             try dsimp only at H
             have A41 := Aside0.mk A410
             clear A410
             by_cases c42 : 1 + t252.size ≤ 9223372036854775807
             ·rw [if_pos c42] at H
              have c42b0 := eq_true c42
              have c42b1 : decide (1 + t252.size ≤ 9223372036854775807) = true := decide_eq_true c42
              try have c42b2 : (9223372036854775807 < 1 + t252.size) = False := eq_false (Nat.not_lt.2 c42)
              obtain rfl := Option.some.inj H
              have p244 : 0 ≤ ((ji29) : Int) := of_decide_eq_true z1
              have q244 : (ji29) < (t241.length : Int) := of_decide_eq_true z1
              obtain ⟨ad244, e244, hx244_0⟩ := Kd.at_string (Kd.R_reads' HO_4.out).2.2 (ji29) p244 q244
              cases e244
              replace p244 := eq_true p244
              replace q244 := eq_true q244
              go_wp2_with (first | ((with_reducible refine gate_builtin (b := .append) (xs := #[.tmp 63, .tmp 64]) rfl ?_); (try (refine gate_guard (by rfl) ?_; dsimp only)); at_builtin; refine Kd.R_append Kd.string (w0 := w) w.heap.size rfl (.tmp 63) (.tmp 64) 55 9 (.string ⟨#[]⟩) 16 rfl Tryz.underlying55 info9 rfl (by decide) (by omega) u3 x3_2 (⟨#[]⟩ : ByteArray) [.string (⟨#[]⟩ : ByteArray)] (fun k_ => some k_ ≠ (.slice (some ad244) t241.length co16 : Value).ownBlock ∧ some k_ ≠ (.slice (some ad244) t241.length co16 : Value).ownBlock) (fun _ => False) rfl rfl ?aP (fun _ hk => hk.elim) ?aF ?aO ?aB ?aS ?aL ?_; (case aP => exact rfl); (case aB => exact z0); (case aF => exact (fun k_ hk => ⟨Kd.fresh' (Kd.R_lt z36) k_ hk, Kd.fresh' (Kd.R_lt z43) k_ hk⟩)); (case aO => exact z11); (case aS => exact (below_size z0)); (case aL => have := LMc40.out; omega); intro v250 w43 ho hb hg hat; rw [← Ny249.out] at ho; replace HO_4 := Aside0.mk (Kd.R_after (ok := (fun _ => True)) z40 hg hat); replace HO_29 := Aside0.mk (Kd.R_after (ok := (fun _ => True)) z58 hg hat); replace HB := Aside0.mk (hb); have HO251 := Aside0.mk (ho); clear HO_3; clear ho hb hg hat; obtain ⟨Ao44, co44, eo44⟩ := Kd.R_slice HO251.out; subst eo44) | ((with_reducible refine gate_callee (f := 44) rfl ?_); refine goesQ_ 67 Tryz.func44 #[.slice Ao44 y249.length co44, .string (⟨#[47]⟩ : ByteArray)] ?_; (with_reducible refine (strings_Join.calls _ _ y249 (⟨#[47]⟩ : ByteArray) t252 _ ?side1 ?side2 A41.out).mono ?_); (case side1 => repeat (first | exact (Kd.R_reads' HO251.out).2.2 | (with_reducible refine Kd.C_alloc ?_ _) | (with_reducible refine Kd.C_drewN ?_ _) | (with_reducible refine Kd.C_drew ?_))); (case side2 => exact (Kd.R_reads' HO251.out).2.1); rintro e w45 ⟨rfl, hb⟩; refine ⟨_, rfl, ?_⟩; replace HO_4 := Aside0.mk (Kd.R_below z36 hb); replace HO_29 := Aside0.mk (Kd.R_below z43 hb); replace HO251 := Aside0.mk (Kd.R_below (by (with_reducible repeat (first | apply Kd.R_alloc | apply Kd.R_drewN | apply Kd.R_drew)); exact HO251.out) hb); replace HB := Aside0.mk (below_step z0 hb); (try clear hb)))
              go_ret
              exact ⟨z54, z0⟩
             ·rw [if_neg c42] at H
              exact absurd H (by simp)
            ·rw [if_neg c40] at H
             exact absurd H (by simp)
           ·rw [if_neg c39] at H
            have c39b0 : ((rdOf ByteArray.empty t241 (ji29)).toList == ([46, 46] : List UInt8)) = false := beq_eq_false_iff_ne.mpr c39
            have c39b1 : ((rdOf ByteArray.empty t241 (ji29)).toList != ([46, 46] : List UInt8)) = true := bne_iff_ne.mpr c39
            replace H := Option.bind_eq_some_iff.mp H
            obtain ⟨t253, A460, H⟩ := H
            try dsimp only at H
            have A46 := Aside0.mk A460
            clear A460
            by_cases c47 : 1 + t253.size ≤ 9223372036854775807
            ·rw [if_pos c47] at H
             have c47b0 := eq_true c47
             have c47b1 : decide (1 + t253.size ≤ 9223372036854775807) = true := decide_eq_true c47
             try have c47b2 : (9223372036854775807 < 1 + t253.size) = False := eq_false (Nat.not_lt.2 c47)
             obtain rfl := Option.some.inj H
             have p244 : 0 ≤ ((ji29) : Int) := of_decide_eq_true z1
             have q244 : (ji29) < (t241.length : Int) := of_decide_eq_true z1
             obtain ⟨ad244, e244, hx244_0⟩ := Kd.at_string (Kd.R_reads' HO_4.out).2.2 (ji29) p244 q244
             cases e244
             replace p244 := eq_true p244
             replace q244 := eq_true q244
             obtain ⟨Ao48, co48, eo48⟩ := Kd.R_slice HO_3.out
             subst eo48
             go_wp2_with (first | ((with_reducible refine gate_callee (f := 44) rfl ?_); refine goesQ_ 67 Tryz.func44 #[.slice Ao48 x3_2.length co48, .string (⟨#[47]⟩ : ByteArray)] ?_; (with_reducible refine (strings_Join.calls _ _ x3_2 (⟨#[47]⟩ : ByteArray) t253 _ ?side1 ?side2 A46.out).mono ?_); (case side1 => repeat (first | exact (Kd.R_reads' HO_3.out).2.2 | (with_reducible refine Kd.C_alloc ?_ _) | (with_reducible refine Kd.C_drewN ?_ _) | (with_reducible refine Kd.C_drew ?_))); (case side2 => exact (Kd.R_reads' HO_3.out).2.1); rintro e w49 ⟨rfl, hb⟩; refine ⟨_, rfl, ?_⟩; replace HO_3 := Aside0.mk (Kd.R_below z11 hb); replace HO_4 := Aside0.mk (Kd.R_below z36 hb); replace HO_29 := Aside0.mk (Kd.R_below z43 hb); replace HB := Aside0.mk (below_step z0 hb); (try clear hb)))
             go_ret
             exact ⟨z54, z0⟩
            ·rw [if_neg c47] at H
             exact absurd H (by simp)
         ·rw [if_neg c31] at H
          exact absurd H (by simp)
        ·rw [if_neg c30] at H
         exact absurd H (by simp)
    ·rw [if_neg c12] at H
     exact absurd H (by simp)

/-! ### strings_Index: function 79 -/
def strings_Index.f (a0 : ByteArray) (a1 : ByteArray) : Option (Int) := if a0.size < 4294967281 then some (Lib.index a0.data.toList a1.data.toList) else none
theorem strings_Index.calls (a0 : ByteArray) (a1 : ByteArray) (r : Int) (w : World) (hG : Gl w) (h : strings_Index.f a0 a1 = some r) :
  Calls Tryz.prog 79 #[.string a0, .string a1] w fun e w' => e = .returned (.int .i64 r) ∧ Below w.heap.size w w' := by
 unfold strings_Index.f at h
 by_cases hs : a0.size < 4294967281
 ·rw [if_pos hs] at h
  obtain rfl := Option.some.inj h
  obtain ⟨m, hm⟩ := hG.maxLen
  refine (Tryz.strings_Index a0 a1 m w hs hm).mono ?_
  rintro e w' ⟨he, hw⟩
  subst hw
  exact ⟨he, Below.refl _ _⟩
 ·rw [if_neg hs] at h; cases h


/-! ### strings_Contains: function 35 -/
def strings_Contains.f (a0 : ByteArray) (a1 : ByteArray) : Option (Bool) := (strings_Index.f a0 a1).bind fun t261 => (some (decide (t261 ≥ 0)))
set_option maxHeartbeats 8000000 in
set_option maxRecDepth 100000 in
theorem strings_Contains.calls (a0 : ByteArray) (a1 : ByteArray) (r : Bool) (w : World) (hG : Gl w) (h : strings_Contains.f a0 a1 = some r) :
  Calls Tryz.prog 35 #[.string a0, .string a1] w fun e w' => e = .returned (.bool r) ∧ Below w.heap.size w w' := by
 have HG := Aside0.mk hG
 clear hG
 have HB := Aside0.mk (Below.refl w.heap.size w)
 have H : ((strings_Index.f a0 a1).bind fun t261 => (some (decide (t261 ≥ 0)))) = some r := h
 clear h
 replace H := Option.bind_eq_some_iff.mp H
 obtain ⟨t261, A30, H⟩ := H
 try dsimp only at H
 have A3 := Aside0.mk A30
 clear A30
 obtain rfl := Option.some.inj H
 go_enter Tryz.func35, Tryz.ntmps35
 go_wp2_with (first | ((with_reducible refine gate_callee (f := 79) rfl ?_); refine goesQ_ 7 Tryz.func79 #[.string a0, .string a1] ?_; (with_reducible refine (strings_Index.calls a0 a1 t261 _ ?side1 A3.out).mono ?_); (case side1 => exact Gl.below HG.out z0); rintro e w4 ⟨rfl, hb⟩; refine ⟨_, rfl, ?_⟩; replace HB := Aside0.mk (below_step z0 hb); (try clear hb)))
 go_ret
 exact ⟨z4, z0⟩

/-! ### impl_portText: function 96 -/
def impl_portText.f (a0_0 : ByteArray) (a0_1 : Int) (a0_2 : ByteArray) (a0_3 : ByteArray) (a0_4 : Bool) : Option (ByteArray) := if a0_1 = 80 then (some (⟨#[]⟩ : ByteArray)) else ((strconv_Itoa.f a0_1).bind fun t263 => (if 1 + t263.size ≤ 9223372036854775807 then (some ((⟨#[58]⟩ : ByteArray) ++ t263)) else (none)))
set_option maxHeartbeats 8000000 in
set_option maxRecDepth 100000 in
theorem impl_portText.calls (a0_0 : ByteArray) (a0_1 : Int) (a0_2 : ByteArray) (a0_3 : ByteArray) (a0_4 : Bool) (r : ByteArray) (w : World) (hG : Gl w) (h : impl_portText.f a0_0 a0_1 a0_2 a0_3 a0_4 = some r) :
  Calls Tryz.prog 96 #[.agg #[.string a0_0, .int .i64 a0_1, .string a0_2, .string a0_3, .bool a0_4]] w fun e w' => e = .returned (.string r) ∧ Below w.heap.size w w' := by
 have hu23 := Tryz.underlying23
 have HG := Aside0.mk hG
 clear hG
 have HB := Aside0.mk (Below.refl w.heap.size w)
 have H : (if a0_1 = 80 then (some (⟨#[]⟩ : ByteArray)) else ((strconv_Itoa.f a0_1).bind fun t263 => (if 1 + t263.size ≤ 9223372036854775807 then (some ((⟨#[58]⟩ : ByteArray) ++ t263)) else (none)))) = some r := h
 clear h
 by_cases c2 : a0_1 = 80
 ·rw [if_pos c2] at H
  have c2b0 : (a0_1 == 80) = true := beq_iff_eq.mpr c2
  have c2b1 : (a0_1 != 80) = false := bne_eq_false_iff_eq.mpr c2
  clear c2
  obtain rfl := Option.some.inj H
  go_enter Tryz.func96, Tryz.ntmps96
  go_wp2_with (first | ((with_reducible refine gate_dst (N := 1) rfl ?_); refine boxP_ (N := 1) (cs := #[.string a0_0, .int .i64 a0_1, .string a0_2, .string a0_3, .bool a0_4]) (t := 23) ?_; intro gb262 hg w3 hbox hb; have BK262 := Aside0.mk (hbox); have GE262 := geb_ (w := w) hg z0; replace HB := Aside0.mk (below_step z0 hb); clear hb hbox hg; obtain ⟨hcz4_0, hcz4_1, hcz4_2, hcz4_3, hcz4_4, hfz4_0, hfz4_1, hfz4_2, hfz4_3, hfz4_4⟩ := cells5_ BK262.out))
  go_ret
  exact ⟨z4, z47⟩
 ·rw [if_neg c2] at H
  have c2b0 : (a0_1 == 80) = false := beq_eq_false_iff_ne.mpr c2
  have c2b1 : (a0_1 != 80) = true := bne_iff_ne.mpr c2
  replace H := Option.bind_eq_some_iff.mp H
  obtain ⟨t263, A50, H⟩ := H
  try dsimp only at H
  have A5 := Aside0.mk A50
  clear A50
  by_cases c6 : 1 + t263.size ≤ 9223372036854775807
  ·rw [if_pos c6] at H
   have c6b0 := eq_true c6
   have c6b1 : decide (1 + t263.size ≤ 9223372036854775807) = true := decide_eq_true c6
   try have c6b2 : (9223372036854775807 < 1 + t263.size) = False := eq_false (Nat.not_lt.2 c6)
   obtain rfl := Option.some.inj H
   go_enter Tryz.func96, Tryz.ntmps96
   go_wp2_with (first | ((with_reducible refine gate_dst (N := 1) rfl ?_); refine boxP_ (N := 1) (cs := #[.string a0_0, .int .i64 a0_1, .string a0_2, .string a0_3, .bool a0_4]) (t := 23) ?_; intro gb262 hg w7 hbox hb; have BK262 := Aside0.mk (hbox); have GE262 := geb_ (w := w) hg z0; replace HB := Aside0.mk (below_step z0 hb); clear hb hbox hg; obtain ⟨hcz8_0, hcz8_1, hcz8_2, hcz8_3, hcz8_4, hfz8_0, hfz8_1, hfz8_2, hfz8_3, hfz8_4⟩ := cells5_ BK262.out) | ((with_reducible refine gate_callee (f := 136) rfl ?_); refine goesQ_ 8 Tryz.func136 #[.int .i64 a0_1] ?_; (with_reducible refine (strconv_Itoa.calls a0_1 t263 _ ?side1 A5.out).mono ?_); (case side1 => exact Gl.below HG.out z47); rintro e w9 ⟨rfl, hb⟩; refine ⟨_, rfl, ?_⟩; replace BK262 := Aside0.mk (blk_below (g := gb262) (o := .cells #[.string a0_0, .int .i64 a0_1, .string a0_2, .string a0_3, .bool a0_4] 23 (0, 0)) (by (with_reducible repeat (first | refine blk_drewN ?_ _ | refine blk_drew ?_ | refine blk_alloc ?_ _)); exact BK262.out) hb); replace HB := Aside0.mk (below_step z47 hb); (try clear hb)))
   go_ret
   exact ⟨z4, z47⟩
  ·rw [if_neg c6] at H
   exact absurd H (by simp)

/-! ### impl_pathText: function 97 -/
def impl_pathText.f (a0_0 : ByteArray) (a0_1 : Int) (a0_2 : ByteArray) (a0_3 : ByteArray) (a0_4 : Bool) : Option (ByteArray) := if a0_4 = true then (if a0_2.size + 1 ≤ 9223372036854775807 then (if (a0_2 ++ (⟨#[63]⟩ : ByteArray)).size + a0_3.size ≤ 9223372036854775807 then (some ((a0_2 ++ (⟨#[63]⟩ : ByteArray)) ++ a0_3)) else (none)) else (none)) else (some a0_2)
set_option maxHeartbeats 8000000 in
set_option maxRecDepth 100000 in
theorem impl_pathText.calls (a0_0 : ByteArray) (a0_1 : Int) (a0_2 : ByteArray) (a0_3 : ByteArray) (a0_4 : Bool) (r : ByteArray) (w : World) (h : impl_pathText.f a0_0 a0_1 a0_2 a0_3 a0_4 = some r) :
  Calls Tryz.prog 97 #[.agg #[.string a0_0, .int .i64 a0_1, .string a0_2, .string a0_3, .bool a0_4]] w fun e w' => e = .returned (.string r) ∧ Below w.heap.size w w' := by
 have hu23 := Tryz.underlying23
 have HB := Aside0.mk (Below.refl w.heap.size w)
 have H : (if a0_4 = true then (if a0_2.size + 1 ≤ 9223372036854775807 then (if (a0_2 ++ (⟨#[63]⟩ : ByteArray)).size + a0_3.size ≤ 9223372036854775807 then (some ((a0_2 ++ (⟨#[63]⟩ : ByteArray)) ++ a0_3)) else (none)) else (none)) else (some a0_2)) = some r := h
 clear h
 by_cases c2 : a0_4 = true
 ·subst c2
  rw [if_pos rfl] at H
  by_cases c3 : a0_2.size + 1 ≤ 9223372036854775807
  ·rw [if_pos c3] at H
   have c3b0 := eq_true c3
   have c3b1 : decide (a0_2.size + 1 ≤ 9223372036854775807) = true := decide_eq_true c3
   try have c3b2 : (9223372036854775807 < a0_2.size + 1) = False := eq_false (Nat.not_lt.2 c3)
   by_cases c4 : (a0_2 ++ (⟨#[63]⟩ : ByteArray)).size + a0_3.size ≤ 9223372036854775807
   ·rw [if_pos c4] at H
    have c4b0 := eq_true c4
    have c4b1 : decide ((a0_2 ++ (⟨#[63]⟩ : ByteArray)).size + a0_3.size ≤ 9223372036854775807) = true := decide_eq_true c4
    try have c4b2 : (9223372036854775807 < (a0_2 ++ (⟨#[63]⟩ : ByteArray)).size + a0_3.size) = False := eq_false (Nat.not_lt.2 c4)
    try have c4z := c4b2; simp only [ByteArray.size_append, show (⟨#[63]⟩ : ByteArray).size = 1 from rfl] at c4z; have c4b3 := c4z
    obtain rfl := Option.some.inj H
    go_enter Tryz.func97, Tryz.ntmps97
    go_wp2_with (first | ((with_reducible refine gate_dst (N := 1) rfl ?_); refine boxP_ (N := 1) (cs := #[.string a0_0, .int .i64 a0_1, .string a0_2, .string a0_3, .bool true]) (t := 23) ?_; intro gb264 hg w5 hbox hb; have BK264 := Aside0.mk (hbox); have GE264 := geb_ (w := w) hg z0; replace HB := Aside0.mk (below_step z0 hb); clear hb hbox hg; obtain ⟨hcz6_0, hcz6_1, hcz6_2, hcz6_3, hcz6_4, hfz6_0, hfz6_1, hfz6_2, hfz6_3, hfz6_4⟩ := cells5_ BK264.out))
    go_ret
    exact ⟨z4, z73⟩
   ·rw [if_neg c4] at H
    exact absurd H (by simp)
  ·rw [if_neg c3] at H
   exact absurd H (by simp)
 ·replace c2 := Bool.eq_false_iff.mpr c2
  subst c2
  rw [if_neg Bool.false_ne_true] at H
  obtain rfl := Option.some.inj H
  go_enter Tryz.func97, Tryz.ntmps97
  go_wp2_with (first | ((with_reducible refine gate_dst (N := 1) rfl ?_); refine boxP_ (N := 1) (cs := #[.string a0_0, .int .i64 a0_1, .string a0_2, .string a0_3, .bool false]) (t := 23) ?_; intro gb264 hg w7 hbox hb; have BK264 := Aside0.mk (hbox); have GE264 := geb_ (w := w) hg z0; replace HB := Aside0.mk (below_step z0 hb); clear hb hbox hg; obtain ⟨hcz8_0, hcz8_1, hcz8_2, hcz8_3, hcz8_4, hfz8_0, hfz8_1, hfz8_2, hfz8_3, hfz8_4⟩ := cells5_ BK264.out))
  go_ret
  exact ⟨z4, z73⟩

/-! ### impl_urlText: function 49 -/
def impl_urlText.f (a0_0 : ByteArray) (a0_1 : Int) (a0_2 : ByteArray) (a0_3 : ByteArray) (a0_4 : Bool) : Option (ByteArray) := if 7 + a0_0.size ≤ 9223372036854775807 then ((impl_portText.f a0_0 a0_1 a0_2 a0_3 a0_4).bind fun t266 => (if ((⟨#[104, 116, 116, 112, 58, 47, 47]⟩ : ByteArray) ++ a0_0).size + t266.size ≤ 9223372036854775807 then ((impl_pathText.f a0_0 a0_1 a0_2 a0_3 a0_4).bind fun t267 => (if (((⟨#[104, 116, 116, 112, 58, 47, 47]⟩ : ByteArray) ++ a0_0) ++ t266).size + t267.size ≤ 9223372036854775807 then (some ((((⟨#[104, 116, 116, 112, 58, 47, 47]⟩ : ByteArray) ++ a0_0) ++ t266) ++ t267)) else (none))) else (none))) else (none)
def impl_urlText.T1 : Bool × List (List Nat × List Nat) := (true, [([], []), ([0], [0]), ([1], [1]), ([], []), ([3], [3]), ([2, 4], [2, 4]), ([], []), ([6, 4], [6]), ([5, 7], [5, 7]), ([8, 7, 0, 1, 2, 3, 4, 5, 6, 7, 8], [8])])
def impl_urlText.B1 : List Nat := [0, 1, 3, 0, 8, 31, 0, 88, 255, 511]
theorem impl_urlText.tab1 : rtab .any (opsOf Tryz.f49 1) = impl_urlText.T1 := by kernel_rfl
theorem impl_urlText.bits1 : waitsOk impl_urlText.T1.2 impl_urlText.B1 = true := by kernel_rfl
set_option maxHeartbeats 8000000 in
set_option maxRecDepth 100000 in
theorem impl_urlText.calls (a0_0 : ByteArray) (a0_1 : Int) (a0_2 : ByteArray) (a0_3 : ByteArray) (a0_4 : Bool) (r : ByteArray) (w : World) (hG : Gl w) (h : impl_urlText.f a0_0 a0_1 a0_2 a0_3 a0_4 = some r) :
  Calls Tryz.prog 49 #[.agg #[.string a0_0, .int .i64 a0_1, .string a0_2, .string a0_3, .bool a0_4]] w fun e w' => e = .returned (.string r) ∧ Below w.heap.size w w' := by
 have hu23 := Tryz.underlying23
 have HG := Aside0.mk hG
 clear hG
 have HB := Aside0.mk (Below.refl w.heap.size w)
 have H : (if 7 + a0_0.size ≤ 9223372036854775807 then ((impl_portText.f a0_0 a0_1 a0_2 a0_3 a0_4).bind fun t266 => (if ((⟨#[104, 116, 116, 112, 58, 47, 47]⟩ : ByteArray) ++ a0_0).size + t266.size ≤ 9223372036854775807 then ((impl_pathText.f a0_0 a0_1 a0_2 a0_3 a0_4).bind fun t267 => (if (((⟨#[104, 116, 116, 112, 58, 47, 47]⟩ : ByteArray) ++ a0_0) ++ t266).size + t267.size ≤ 9223372036854775807 then (some ((((⟨#[104, 116, 116, 112, 58, 47, 47]⟩ : ByteArray) ++ a0_0) ++ t266) ++ t267)) else (none))) else (none))) else (none)) = some r := h
 clear h
 by_cases c2 : 7 + a0_0.size ≤ 9223372036854775807
 ·rw [if_pos c2] at H
  have c2b0 := eq_true c2
  have c2b1 : decide (7 + a0_0.size ≤ 9223372036854775807) = true := decide_eq_true c2
  try have c2b2 : (9223372036854775807 < 7 + a0_0.size) = False := eq_false (Nat.not_lt.2 c2)
  replace H := Option.bind_eq_some_iff.mp H
  obtain ⟨t266, A30, H⟩ := H
  try dsimp only at H
  have A3 := Aside0.mk A30
  clear A30
  by_cases c4 : ((⟨#[104, 116, 116, 112, 58, 47, 47]⟩ : ByteArray) ++ a0_0).size + t266.size ≤ 9223372036854775807
  ·rw [if_pos c4] at H
   have c4b0 := eq_true c4
   have c4b1 : decide (((⟨#[104, 116, 116, 112, 58, 47, 47]⟩ : ByteArray) ++ a0_0).size + t266.size ≤ 9223372036854775807) = true := decide_eq_true c4
   try have c4b2 : (9223372036854775807 < ((⟨#[104, 116, 116, 112, 58, 47, 47]⟩ : ByteArray) ++ a0_0).size + t266.size) = False := eq_false (Nat.not_lt.2 c4)
   try have c4z := c4b2; simp only [ByteArray.size_append, show (⟨#[104, 116, 116, 112, 58, 47, 47]⟩ : ByteArray).size = 7 from rfl] at c4z; have c4b3 := c4z
   replace H := Option.bind_eq_some_iff.mp H
   obtain ⟨t267, A50, H⟩ := H
   try dsimp only at H
   have A5 := Aside0.mk A50
   clear A50
   by_cases c6 : (((⟨#[104, 116, 116, 112, 58, 47, 47]⟩ : ByteArray) ++ a0_0) ++ t266).size + t267.size ≤ 9223372036854775807
   ·rw [if_pos c6] at H
    have c6b0 := eq_true c6
    have c6b1 : decide ((((⟨#[104, 116, 116, 112, 58, 47, 47]⟩ : ByteArray) ++ a0_0) ++ t266).size + t267.size ≤ 9223372036854775807) = true := decide_eq_true c6
    try have c6b2 : (9223372036854775807 < (((⟨#[104, 116, 116, 112, 58, 47, 47]⟩ : ByteArray) ++ a0_0) ++ t266).size + t267.size) = False := eq_false (Nat.not_lt.2 c6)
    try have c6z := c6b2; simp only [ByteArray.size_append, show (⟨#[104, 116, 116, 112, 58, 47, 47]⟩ : ByteArray).size = 7 from rfl] at c6z; have c6b3 := c6z
    obtain rfl := Option.some.inj H
    go_enter Tryz.func49, Tryz.ntmps49
    try go_wp2_with (first | ((with_reducible refine gate_dst (N := 1) rfl ?_); refine boxP_ (N := 1) (cs := #[.string a0_0, .int .i64 a0_1, .string a0_2, .string a0_3, .bool a0_4]) (t := 23) ?_; intro gb265 hg w7 hbox hb; have BK265 := Aside0.mk (hbox); have GE265 := geb_ (w := w) hg z0; replace HB := Aside0.mk (below_step z0 hb); clear hb hbox hg))
    have n0_ := Aside0.mk (blk_drew BK265.out)
    have n1_ := Aside0.mk (below_drew1 HB.out)
    clear BK265
    clear HB
    have BK265 := n0_
    have HB := n1_
    clear n0_ n1_
    refine start_ (n := 10) (S := fun w' => w'.cell? ⟨gb265, 0, none⟩ = some (.string a0_0) ∧ w'.cell? ⟨gb265, 1, none⟩ = some (.int .i64 a0_1) ∧ w'.cell? ⟨gb265, 2, none⟩ = some (.string a0_2) ∧ w'.cell? ⟨gb265, 3, none⟩ = some (.string a0_3) ∧ w'.cell? ⟨gb265, 4, none⟩ = some (.bool a0_4)) (ds := []) #[false, false, false, false, false, false, false, false, false, false] (by kernel_rfl) rfl rfl ⟨(blk_cell BK265.out 0).trans rfl, (blk_cell BK265.out 1).trans rfl, (blk_cell BK265.out 2).trans rfl, (blk_cell BK265.out 3).trans rfl, (blk_cell BK265.out 4).trans rfl⟩ (fun hHeld => ?_); refine with_tabW impl_urlText.tab1 impl_urlText.bits1 (fun HT_ HW_ => ?_)
    generalize w7.drew = w8 at BK265 HB hHeld ⊢
    refine pure_ (i := 0) (N := some 3) (v := ?_) (a' := ?_) #[true, false, false, false, false, false, false, false, false, false] rfl rfl (any_of HT_.out (by kernel_rfl)) (fun _ _ _ h => h) (Or.inl ⟨by rfl, ?_⟩) ?_ ?_
    rotate_left
    ·intro w'
     go_simp
     with_reducible rfl
    rotate_left
    ·simp only [Act.put, List.setIfInBounds_toArray, List.set_cons_zero, List.set_cons_succ, i64_w, i32_w]
     rfl
    refine take_ (i := 1) (N := some 4) (v := ?_) (a' := ?_) #[true, true, false, false, false, false, false, false, false, false] rfl rfl (take_ofW HT_.out HW_.out (by kernel_rfl)) (fun _ _ _ h => h) (Or.inl ⟨by rfl, ?_⟩) hHeld ?_ ?_
    rotate_left
    ·rintro w' ⟨s0, s1, s2, s3, s4⟩
     go_simp
     with_reducible rfl
    rotate_left
    ·simp only [Act.put, List.setIfInBounds_toArray, List.set_cons_zero, List.set_cons_succ, i64_w, i32_w]
     rfl
    refine pure_ (i := 2) (N := some 5) (v := ?_) (a' := ?_) #[true, true, true, false, false, false, false, false, false, false] rfl rfl (any_of HT_.out (by kernel_rfl)) (fun _ _ _ h => h) (Or.inl ⟨by rfl, ?_⟩) ?_ ?_
    rotate_left
    ·intro w'
     go_simp
     with_reducible rfl
    rotate_left
    ·simp only [Act.put, List.setIfInBounds_toArray, List.set_cons_zero, List.set_cons_succ, i64_w, i32_w]
     rfl
    refine take_ (i := 3) (N := some 6) (v := ?_) (a' := ?_) #[true, true, true, true, false, false, false, false, false, false] rfl rfl (take_ofW HT_.out HW_.out (by kernel_rfl)) (fun _ _ _ h => h) (Or.inl ⟨by rfl, ?_⟩) hHeld ?_ ?_
    rotate_left
    ·rintro w' ⟨s0, s1, s2, s3, s4⟩
     go_simp
     with_reducible rfl
    rotate_left
    ·simp only [Act.put, List.setIfInBounds_toArray, List.set_cons_zero, List.set_cons_succ, i64_w, i32_w]
     rfl
    refine take_ (i := 6) (N := some 9) (v := ?_) (a' := ?_) #[true, true, true, true, false, false, true, false, false, false] rfl rfl (take_ofW HT_.out HW_.out (by kernel_rfl)) (fun _ _ _ h => h) (Or.inl ⟨by rfl, ?_⟩) hHeld ?_ ?_
    rotate_left
    ·rintro w' ⟨s0, s1, s2, s3, s4⟩
     go_simp
     with_reducible rfl
    rotate_left
    ·simp only [Act.put, List.setIfInBounds_toArray, List.set_cons_zero, List.set_cons_succ, i64_w, i32_w]
     rfl
    refine one_ (i := 4) (N := some 7) #[true, true, true, true, true, false, true, false, false, false] rfl rfl (one_of HT_.out (by kernel_rfl)) (by decide) (fun K hK => ?_)
    refine goes_ Tryz.func96 (by kernel_rfl) rfl #[.agg #[.string a0_0, .int .i64 a0_1, .string a0_2, .string a0_3, .bool a0_4]] (by rfl) rfl rfl z5 ?_
    with_reducible refine (impl_portText.calls a0_0 a0_1 a0_2 a0_3 a0_4 t266 _ ?side1 A3.out).mono ?_
    (case side1 => exact Gl.below HG.out z46)
    rintro e w9 ⟨rfl, hb⟩
    refine ⟨_, rfl, ?_⟩
    have n0_ := Aside0.mk (blk_below (g := gb265) (o := .cells #[.string a0_0, .int .i64 a0_1, .string a0_2, .string a0_3, .bool a0_4] 23 (0, 0)) (by (with_reducible repeat (first | refine blk_drewN ?_ _ | refine blk_drew ?_ | refine blk_alloc ?_ _)); exact BK265.out) hb)
    have n1_ := Aside0.mk (below_step z46 hb)
    clear BK265
    clear HB
    have BK265 := n0_
    have HB := n1_
    clear n0_ n1_
    (try clear hb)
    (try clear hb2)
    (try clear hk)
    (try clear hi)
    refine hK.out _ _ ⟨(blk_cell BK265.out 0).trans rfl, (blk_cell BK265.out 1).trans rfl, (blk_cell BK265.out 2).trans rfl, (blk_cell BK265.out 3).trans rfl, (blk_cell BK265.out 4).trans rfl⟩ (fun hHeld => ?_)
    clear hK K
    refine norm_ (a' := ?_) ?_ ?_
    rotate_left
    ·show Act.put _ (some 7) _ = _
     simp only [Act.put, List.setIfInBounds_toArray, List.set_cons_zero, List.set_cons_succ, i64_w, i32_w]
     rfl
    refine pure_ (i := 5) (N := some 8) (v := ?_) (a' := ?_) #[true, true, true, true, true, true, true, false, false, false] rfl rfl (any_of HT_.out (by kernel_rfl)) (fun _ _ _ h => h) (Or.inl ⟨by rfl, ?_⟩) ?_ ?_
    rotate_left
    ·intro w'
     go_simp
     with_reducible rfl
    rotate_left
    ·simp only [Act.put, List.setIfInBounds_toArray, List.set_cons_zero, List.set_cons_succ, i64_w, i32_w]
     rfl
    refine one_ (i := 7) (N := some 10) #[true, true, true, true, true, true, true, true, false, false] rfl rfl (one_of HT_.out (by kernel_rfl)) (by decide) (fun K hK => ?_)
    refine goes_ Tryz.func97 (by kernel_rfl) rfl #[.agg #[.string a0_0, .int .i64 a0_1, .string a0_2, .string a0_3, .bool a0_4]] (by rfl) rfl rfl z5 ?_
    with_reducible refine (impl_pathText.calls a0_0 a0_1 a0_2 a0_3 a0_4 t267 _ A5.out).mono ?_
    rintro e w10 ⟨rfl, hb⟩
    refine ⟨_, rfl, ?_⟩
    have n0_ := Aside0.mk (blk_below (g := gb265) (o := .cells #[.string a0_0, .int .i64 a0_1, .string a0_2, .string a0_3, .bool a0_4] 23 (0, 0)) (by (with_reducible repeat (first | refine blk_drewN ?_ _ | refine blk_drew ?_ | refine blk_alloc ?_ _)); exact BK265.out) hb)
    have n1_ := Aside0.mk (below_step z46 hb)
    clear BK265
    clear HB
    have BK265 := n0_
    have HB := n1_
    clear n0_ n1_
    (try clear hb)
    (try clear hb2)
    (try clear hk)
    (try clear hi)
    refine hK.out _ _ ⟨(blk_cell BK265.out 0).trans rfl, (blk_cell BK265.out 1).trans rfl, (blk_cell BK265.out 2).trans rfl, (blk_cell BK265.out 3).trans rfl, (blk_cell BK265.out 4).trans rfl⟩ (fun hHeld => ?_)
    clear hK K
    refine norm_ (a' := ?_) ?_ ?_
    rotate_left
    ·show Act.put _ (some 10) _ = _
     simp only [Act.put, List.setIfInBounds_toArray, List.set_cons_zero, List.set_cons_succ, i64_w, i32_w]
     rfl
    refine pure_ (i := 8) (N := some 11) (v := ?_) (a' := ?_) #[true, true, true, true, true, true, true, true, true, false] rfl rfl (any_of HT_.out (by kernel_rfl)) (fun _ _ _ h => h) (Or.inl ⟨by rfl, ?_⟩) ?_ ?_
    rotate_left
    ·intro w'
     go_simp
     with_reducible rfl
    rotate_left
    ·simp only [Act.put, List.setIfInBounds_toArray, List.set_cons_zero, List.set_cons_succ, i64_w, i32_w]
     rfl
    refine pure_ (i := 9) (N := some 2) (v := ?_) (a' := ?_) #[true, true, true, true, true, true, true, true, true, true] rfl rfl (any_of HT_.out (by kernel_rfl)) (fun _ _ _ h => h) (Or.inl ⟨by rfl, ?_⟩) ?_ ?_
    rotate_left
    ·intro w'
     go_simp
     with_reducible rfl
    rotate_left
    ·simp only [Act.put, List.setIfInBounds_toArray, List.set_cons_zero, List.set_cons_succ, i64_w, i32_w]
     rfl
    refine done_ (done_of HT_.out (by kernel_rfl)) ?_
    try go_wp2
    go_ret
    exact ⟨z4, z46⟩
   ·rw [if_neg c6] at H
    exact absurd H (by simp)
  ·rw [if_neg c4] at H
   exact absurd H (by simp)
 ·rw [if_neg c2] at H
  exact absurd H (by simp)

end Go.Proofs.YtcplgnikihjilaaGreatDoor.GFnExactUnsurt
