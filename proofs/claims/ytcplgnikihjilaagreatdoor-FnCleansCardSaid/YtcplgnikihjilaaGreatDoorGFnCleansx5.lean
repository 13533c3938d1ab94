-- Laid by gen.py of this session (over the kit's printing program): what the law FnCleans reaches, as Lean functions, and that Go comes to just that.
import Derived.Test.YtcplgnikihjilaaGreatDoorGFnCleansx0
import Derived.Test.YtcplgnikihjilaaGreatDoorGFnCleansx3
import Derived.Test.YtcplgnikihjilaaGreatDoorGFnCleansx4
import Derived.Test.YtcplgnikihjilaaGreatDoorZFnCleans
namespace Go.Proofs.YtcplgnikihjilaaGreatDoor.GFnCleans
open Go.RowKit Go.Proofs.YtcplgnikihjilaaGreatDoorW.PrintWords Go.Proofs.YtcplgnikihjilaaGreatDoorW.PrintLast Go.Proofs.YtcplgnikihjilaaGreatDoorW.PrintMore Go.Proofs.YtcplgnikihjilaaGreatDoorW.Zs
attribute [local go_sem] max2_int min2_int max_two min_two max_three min_three max_four min_four   -- for this text's walks alone
set_option linter.unusedVariables false
set_option linter.unusedSimpArgs false

/-! ### impl_all__impl_isVisible: function 33 at a function value -/
def impl_all__impl_isVisible.l0 : Nat → ByteArray → Int → Option (Bool)
 | 0, _, _ => none
 | k + 1, x0, x5 => if x5 < (x0.size : Int) then (if 0 ≤ x5 then ((impl_isVisible.f (bt x0 x5)).bind fun t178 => (if t178 = true then (impl_all__impl_isVisible.l0 k x0 (wrap64 (x5 + 1))) else (some false))) else (none)) else (some true)
def impl_all__impl_isVisible.f (k : Nat) (a0 : ByteArray) : Option (Bool) := impl_all__impl_isVisible.l0 k a0 0
theorem impl_all__impl_isVisible.mono_l : ∀ k, (∀ y0 y1, LeO (impl_all__impl_isVisible.l0 k y0 y1) (impl_all__impl_isVisible.l0 (k + 1) y0 y1))
 | 0 => fun _ _ r h => by simp [impl_all__impl_isVisible.l0] at h
 | k + 1 => by
  have ih0 := impl_all__impl_isVisible.mono_l k
  ·intro y0 y1
   unfold impl_all__impl_isVisible.l0
   repeat' first | (with_reducible first | exact ih0 _ _ | exact LeO.refl _ | exact LeO.none _ | refine LeO.ite ?_ ?_ | refine LeO.bind ?_ (fun _ => ?_)) | exact ih0 _ _ | exact LeO.none _ | refine LeO.ite ?_ ?_ | refine LeO.bind ?_ (fun _ => ?_)
theorem impl_all__impl_isVisible.mono : ∀ a0 k, LeO (impl_all__impl_isVisible.f k a0) (impl_all__impl_isVisible.f (k + 1) a0) := by
 intro a0 k
 have ih0 := impl_all__impl_isVisible.mono_l k
 unfold impl_all__impl_isVisible.f
 repeat' first | (with_reducible first | exact ih0 _ _ | exact LeO.refl _ | exact LeO.none _ | refine LeO.ite ?_ ?_ | refine LeO.bind ?_ (fun _ => ?_)) | exact ih0 _ _ | exact LeO.none _ | refine LeO.ite ?_ ?_ | refine LeO.bind ?_ (fun _ => ?_)
set_option maxHeartbeats 8000000 in
set_option maxRecDepth 100000 in
theorem impl_all__impl_isVisible.calls (k : Nat) (a0 : ByteArray) (r : Bool) (w : World) (h : impl_all__impl_isVisible.f k a0 = some r) :
  Calls Tryz.prog 33 #[.string a0, .func (.func 34) #[] #[]] w fun e w' => e = .returned (.bool r) ∧ Drawn0 w w' := by
 have H : (impl_all__impl_isVisible.l0 k a0 0) = some r := h
 clear h
 have H' := Aside0.mk H
 clear H
 go_enter Tryz.func33, Tryz.ntmps33
 go_wp2
 go_loopg [5] k (fun kq v5 w' => ∃ (x5_1 : Int), v5 = .int .i64 x5_1 ∧ Aside0 (impl_all__impl_isVisible.l0 kq a0 x5_1 = some r) ∧ Aside0 (kq ≤ k) ∧ Drawn0 w w')
 case atStart => exact ⟨(0), z2, H', ⟨Nat.le_refl _⟩, z6⟩
 case round =>
  clear H'
  obtain ⟨x5_1, rfl, HA, HK1, ⟨m1, rfl⟩⟩ := hrel
  cases gk with
  | zero => exact absurd HA.out (by simp [impl_all__impl_isVisible.l0])
  | succ k1 =>
   have H := HA.out
   clear HA
   simp only [impl_all__impl_isVisible.l0] at H
   by_cases c2 : x5_1 < (a0.size : Int)
   ·rw [if_pos c2] at H
    have c2b0 : decide (x5_1 < (a0.size : Int)) = true := decide_eq_true c2
    clear c2
    by_cases c3 : 0 ≤ x5_1
    ·rw [if_pos c3] at H
     have c3b0 : decide (0 ≤ x5_1) = true := decide_eq_true c3
     clear c3
     replace H := Option.bind_eq_some_iff.mp H
     obtain ⟨t178, A50, H⟩ := H
     try dsimp only at H
     have A5 := Aside0.mk A50
     clear A50
     by_cases c6 : t178 = true
     ·subst c6
      rw [if_pos rfl] at H
      have H' := Aside0.mk H
      clear H
      have p4 : 0 ≤ (x5_1 : Int) := of_decide_eq_true z1
      have q4 : x5_1 < (a0.size : Int) := of_decide_eq_true z1
      have hx4 := bt_at a0 x5_1
      replace p4 := eq_true p4
      replace q4 := eq_true q4
      go_wp2_with (first | (go_at_call 34; (with_reducible refine (impl_isVisible.calls (bt a0 x5_1) true _ A5.out).mono ?_); rintro e w' ⟨rfl, ⟨nd, rfl⟩⟩))
      go_roundg k1
      case measure => have := HK1.out; omega
      case rel => exact ⟨(wrap64 (x5_1 + 1)), z2, H', ⟨z46⟩, z6⟩
     ·replace c6 := Bool.eq_false_iff.mpr c6
      subst c6
      rw [if_neg Bool.false_ne_true] at H
      obtain rfl := Option.some.inj H
      have p4 : 0 ≤ (x5_1 : Int) := of_decide_eq_true z1
      have q4 : x5_1 < (a0.size : Int) := of_decide_eq_true z1
      have hx4 := bt_at a0 x5_1
      replace p4 := eq_true p4
      replace q4 := eq_true q4
      go_wp2_with (first | (go_at_call 34; (with_reducible refine (impl_isVisible.calls (bt a0 x5_1) false _ A5.out).mono ?_); rintro e w' ⟨rfl, ⟨nd, rfl⟩⟩))
      go_ret
      exact ⟨z2, z6⟩
    ·rw [if_neg c3] at H
     exact absurd H (by simp)
   ·rw [if_neg c2] at H
    have c2b0 : decide (x5_1 < (a0.size : Int)) = false := decide_eq_false c2
    clear c2
    obtain rfl := Option.some.inj H
    go_wp2
    go_ret
    exact ⟨z2, z6⟩

theorem impl_CleanPath_ownB (A : Option Addr) (n c : Nat) : (Value.slice A n c).ownBlock = A.map Addr.block := by cases A <;> rfl
/-! ### impl_CleanPath: function 19 -/
mutual
def impl_CleanPath.j0 : Nat → ByteArray → Bool → Option (ByteArray)
 | 0, _, _ => none
 | k + 1, x0, x24 => if x24 = true then (some (⟨#[]⟩ : ByteArray)) else ((impl_unescaped.f k x0).bind fun t182 => (if 1 ≤ (t182.size : Int) then ((strings_Split.f (t182.extract 1 t182.size) (⟨#[47]⟩ : ByteArray)).bind fun t183 => (impl_CleanPath.l0 k ([] : List ByteArray) t183 t183 (t183.length : Int) 0)) else (none)))
def impl_CleanPath.l0 : Nat → List ByteArray → List ByteArray → List ByteArray → Int → Int → Option (ByteArray)
 | 0, _, _, _, _, _ => none
 | k + 1, x3, x4, x29, x30, x31 => if x31 < x30 then (if 0 ≤ x31 then (if x31 < (x29.length : Int) then (if (rdOf ByteArray.empty x29 x31).toList = ([46] : List UInt8) then (impl_CleanPath.l0 k x3 x4 x29 x30 (wrap64 (x31 + 1))) else (if (rdOf ByteArray.empty x29 x31).toList = ([46, 46] : List UInt8) then (if 0 ≤ (mx 0 (wrap64 ((x3.length : Int) - 1))) then (if (mx 0 (wrap64 ((x3.length : Int) - 1))) ≤ (x3.length : Int) then (impl_CleanPath.l0 k (x3.take ((mx 0 (wrap64 ((x3.length : Int) - 1))) : Int).toNat) x4 x29 x30 (wrap64 (x31 + 1))) else (none)) else (none)) else (if x3.length < 8796093022208 then (impl_CleanPath.l0 k (x3 ++ [rdOf ByteArray.empty x29 x31]) x4 x29 x30 (wrap64 (x31 + 1))) else (none)))) else (none)) else (none)) else (if 0 ≤ (wrap64 ((x4.length : Int) - 1)) then (if (wrap64 ((x4.length : Int) - 1)) < (x4.length : Int) then (if (rdOf ByteArray.empty x4 (wrap64 ((x4.length : Int) - 1))).toList = ([46] : List UInt8) then (if x3.length < 8796093022208 then ((strings_Join.f (x3 ++ [(⟨#[]⟩ : ByteArray)]) (⟨#[47]⟩ : ByteArray)).bind fun t190 => (if 1 + t190.size ≤ 9223372036854775807 then (some ((⟨#[47]⟩ : ByteArray) ++ t190)) else (none))) else (none)) else (if (rdOf ByteArray.empty x4 (wrap64 ((x4.length : Int) - 1))).toList = ([46, 46] : List UInt8) then (if x3.length < 8796093022208 then ((strings_Join.f (x3 ++ [(⟨#[]⟩ : ByteArray)]) (⟨#[47]⟩ : ByteArray)).bind fun t194 => (if 1 + t194.size ≤ 9223372036854775807 then (some ((⟨#[47]⟩ : ByteArray) ++ t194)) else (none))) else (none)) else ((strings_Join.f x3 (⟨#[47]⟩ : ByteArray)).bind fun t195 => (if 1 + t195.size ≤ 9223372036854775807 then (some ((⟨#[47]⟩ : ByteArray) ++ t195)) else (none))))) else (none)) else (none))
end
def impl_CleanPath.f (k : Nat) (a0 : ByteArray) : Option (ByteArray) := (strings_HasPrefix.f a0 (⟨#[47]⟩ : ByteArray)).bind fun t179 => (if t179 = true then (if (a0.size : Int) > 200 then (impl_CleanPath.j0 k a0 true) else ((impl_all__impl_isVisible.f k a0).bind fun t180 => (if t180 = true then ((strings_ContainsAny.f a0 (⟨#[35, 63]⟩ : ByteArray)).bind fun t181 => (impl_CleanPath.j0 k a0 t181)) else (impl_CleanPath.j0 k a0 true)))) else (impl_CleanPath.j0 k a0 true))
theorem impl_CleanPath.mono_l : ∀ k, (∀ y0 y1, LeO (impl_CleanPath.j0 k y0 y1) (impl_CleanPath.j0 (k + 1) y0 y1)) ∧ (∀ y0 y1 y2 y3 y4, LeO (impl_CleanPath.l0 k y0 y1 y2 y3 y4) (impl_CleanPath.l0 (k + 1) y0 y1 y2 y3 y4))
 | 0 => ⟨fun _ _ r h => by simp [impl_CleanPath.j0] at h, fun _ _ _ _ _ r h => by simp [impl_CleanPath.l0] at h⟩
 | k + 1 => by
  obtain ⟨ih0, ih1⟩ := impl_CleanPath.mono_l k
  refine ⟨?_, ?_⟩
  ·intro y0 y1
   unfold impl_CleanPath.j0
   repeat' first | (with_reducible first | exact ih0 _ _ | exact ih1 _ _ _ _ _ | exact impl_all__impl_isVisible.mono _ _ | exact impl_unescaped.mono _ _ | exact LeO.refl _ | exact LeO.none _ | refine LeO.ite ?_ ?_ | refine LeO.bind ?_ (fun _ => ?_)) | exact ih0 _ _ | exact ih1 _ _ _ _ _ | exact impl_all__impl_isVisible.mono _ _ | exact impl_unescaped.mono _ _ | exact LeO.none _ | refine LeO.ite ?_ ?_ | refine LeO.bind ?_ (fun _ => ?_)
  ·intro y0 y1 y2 y3 y4
   unfold impl_CleanPath.l0
   repeat' first | (with_reducible first | exact ih0 _ _ | exact ih1 _ _ _ _ _ | exact impl_all__impl_isVisible.mono _ _ | exact impl_unescaped.mono _ _ | exact LeO.refl _ | exact LeO.none _ | refine LeO.ite ?_ ?_ | refine LeO.bind ?_ (fun _ => ?_)) | exact ih0 _ _ | exact ih1 _ _ _ _ _ | exact impl_all__impl_isVisible.mono _ _ | exact impl_unescaped.mono _ _ | exact LeO.none _ | refine LeO.ite ?_ ?_ | refine LeO.bind ?_ (fun _ => ?_)
theorem impl_CleanPath.mono : ∀ a0 k, LeO (impl_CleanPath.f k a0) (impl_CleanPath.f (k + 1) a0) := by
 intro a0 k
 obtain ⟨ih0, ih1⟩ := impl_CleanPath.mono_l k
 unfold impl_CleanPath.f
 repeat' first | (with_reducible first | exact ih0 _ _ | exact ih1 _ _ _ _ _ | exact impl_all__impl_isVisible.mono _ _ | exact impl_unescaped.mono _ _ | exact LeO.refl _ | exact LeO.none _ | refine LeO.ite ?_ ?_ | refine LeO.bind ?_ (fun _ => ?_)) | exact ih0 _ _ | exact ih1 _ _ _ _ _ | exact impl_all__impl_isVisible.mono _ _ | exact impl_unescaped.mono _ _ | exact LeO.none _ | refine LeO.ite ?_ ?_ | refine LeO.bind ?_ (fun _ => ?_)
set_option maxHeartbeats 8000000 in
set_option maxRecDepth 100000 in
theorem impl_CleanPath.calls (k : Nat) (a0 : ByteArray) (r : ByteArray) (w : World) (hG : Gl w) (h : impl_CleanPath.f k a0 = some r) :
  Calls Tryz.prog 19 #[.string a0] w fun e w' => e = .returned (.string r) ∧ Below w.heap.size w w' := by
 have HG := Aside0.mk hG
 clear hG
 have HB := Aside0.mk (Below.refl w.heap.size w)
 have H : ((strings_HasPrefix.f a0 (⟨#[47]⟩ : ByteArray)).bind fun t179 => (if t179 = true then (if (a0.size : Int) > 200 then (impl_CleanPath.j0 k a0 true) else ((impl_all__impl_isVisible.f k a0).bind fun t180 => (if t180 = true then ((strings_ContainsAny.f a0 (⟨#[35, 63]⟩ : ByteArray)).bind fun t181 => (impl_CleanPath.j0 k a0 t181)) else (impl_CleanPath.j0 k a0 true)))) else (impl_CleanPath.j0 k a0 true))) = some r := h
 clear h
 have HC2 := Aside0.mk H
 clear H
 go_enter Tryz.func19, Tryz.ntmps19
 go_upto_region 1 with (fail)
 go_cut [24] (fun v24 wc => ∃ (kq : Nat) (x24_1 : Bool), v24 = .bool x24_1 ∧ Aside0 (impl_CleanPath.j0 kq a0 x24_1 = some r) ∧ Aside0 (kq ≤ k) ∧ Aside0 (Below w.heap.size w wc))
 case first =>
  have H := HC2.out
  clear HC2
  replace H := Option.bind_eq_some_iff.mp H
  obtain ⟨t179, A30, H⟩ := H
  try dsimp only at H
  have A3 := Aside0.mk A30
  clear A30
  by_cases c4 : t179 = true
  ·subst c4
   rw [if_pos rfl] at H
   by_cases c5 : (a0.size : Int) > 200
   ·rw [if_pos c5] at H
    have c5b0 : decide (200 < (a0.size : Int)) = true := decide_eq_true c5
    have c5b1 : decide (200 < a0.size) = true := decide_eq_true (by omega)
    clear c5
    (first | rw [c5b0] | (simp only [i64_w, i32_w]; rw [c5b0]) | skip)
    have H' := Aside0.mk H
    clear H
    go_wp2_with (first | ((with_reducible refine gate_callee (f := 57) rfl ?_); refine goesQ_ 9 Tryz.func57 #[.string a0, .string (⟨#[47]⟩ : ByteArray)] ?_; (with_reducible refine (strings_HasPrefix.calls a0 (⟨#[47]⟩ : ByteArray) true _ A3.out).mono ?_); rintro e w' ⟨rfl, ⟨nd, rfl⟩⟩; refine ⟨_, rfl, ?_⟩))
    go_meet
    case rel => exact ⟨_, (true), z2, H', ⟨z21⟩, ⟨z0⟩⟩
   ·rw [if_neg c5] at H
    have c5b0 : decide (200 < (a0.size : Int)) = false := decide_eq_false c5
    have c5b1 : decide (200 < a0.size) = false := decide_eq_false (by omega)
    clear c5
    (first | rw [c5b0] | (simp only [i64_w, i32_w]; rw [c5b0]) | skip)
    replace H := Option.bind_eq_some_iff.mp H
    obtain ⟨t180, A60, H⟩ := H
    try dsimp only at H
    have A6 := Aside0.mk A60
    clear A60
    by_cases c7 : t180 = true
    ·subst c7
     rw [if_pos rfl] at H
     replace H := Option.bind_eq_some_iff.mp H
     obtain ⟨t181, A80, H⟩ := H
     try dsimp only at H
     have A8 := Aside0.mk A80
     clear A80
     have H' := Aside0.mk H
     clear H
     go_wp2_with (first | ((with_reducible refine gate_callee (f := 57) rfl ?_); refine goesQ_ 9 Tryz.func57 #[.string a0, .string (⟨#[47]⟩ : ByteArray)] ?_; (with_reducible refine (strings_HasPrefix.calls a0 (⟨#[47]⟩ : ByteArray) true _ A3.out).mono ?_); rintro e w' ⟨rfl, ⟨nd, rfl⟩⟩; refine ⟨_, rfl, ?_⟩) | (go_at_call 33; (with_reducible refine (impl_all__impl_isVisible.calls k a0 true _ A6.out).mono ?_); rintro e w' ⟨rfl, ⟨nd, rfl⟩⟩) | (go_at_call 58; (with_reducible refine (strings_ContainsAny.calls a0 (⟨#[35, 63]⟩ : ByteArray) t181 _ A8.out).mono ?_); rintro e w9 ⟨rfl, hb⟩; have n0_ := Aside0.mk (below_step z0 hb); clear HB; have HB := n0_; clear n0_; (try clear hb); (try clear hb2); (try clear hk); (try clear hi)))
     go_meet
     case rel => exact ⟨_, (t181), z2, H', ⟨z21⟩, ⟨z0⟩⟩
    ·replace c7 := Bool.eq_false_iff.mpr c7
     subst c7
     rw [if_neg Bool.false_ne_true] at H
     have H' := Aside0.mk H
     clear H
     go_wp2_with (first | ((with_reducible refine gate_callee (f := 57) rfl ?_); refine goesQ_ 9 Tryz.func57 #[.string a0, .string (⟨#[47]⟩ : ByteArray)] ?_; (with_reducible refine (strings_HasPrefix.calls a0 (⟨#[47]⟩ : ByteArray) true _ A3.out).mono ?_); rintro e w' ⟨rfl, ⟨nd, rfl⟩⟩; refine ⟨_, rfl, ?_⟩) | (go_at_call 33; (with_reducible refine (impl_all__impl_isVisible.calls k a0 false _ A6.out).mono ?_); rintro e w' ⟨rfl, ⟨nd, rfl⟩⟩))
     go_meet
     case rel => exact ⟨_, (true), z2, H', ⟨z21⟩, ⟨z0⟩⟩
  ·replace c4 := Bool.eq_false_iff.mpr c4
   subst c4
   rw [if_neg Bool.false_ne_true] at H
   have H' := Aside0.mk H
   clear H
   go_wp2_with (first | ((with_reducible refine gate_callee (f := 57) rfl ?_); refine goesQ_ 9 Tryz.func57 #[.string a0, .string (⟨#[47]⟩ : ByteArray)] ?_; (with_reducible refine (strings_HasPrefix.calls a0 (⟨#[47]⟩ : ByteArray) false _ A3.out).mono ?_); rintro e w' ⟨rfl, ⟨nd, rfl⟩⟩; refine ⟨_, rfl, ?_⟩))
   go_meet
   case rel => exact ⟨_, (true), z2, H', ⟨z21⟩, ⟨z0⟩⟩
 case rest =>
  clear HC2
  try clear c1
  try clear p2
  try clear c4
  try clear c5
  try clear c5b0
  try clear c5b1
  try clear c7
  obtain ⟨kq, x24_1, rfl, HA, HJ1, HB⟩ := hcut
  cases kq with
  | zero => exact absurd HA.out (by simp [impl_CleanPath.j0])
  | succ kj1 =>
   have H := HA.out
   clear HA
   simp only [impl_CleanPath.j0] at H
   by_cases c10 : x24_1 = true
   ·subst c10
    rw [if_pos rfl] at H
    obtain rfl := Option.some.inj H
    go_wp2
    go_ret
    exact ⟨z4, z0⟩
   ·replace c10 := Bool.eq_false_iff.mpr c10
    subst c10
    rw [if_neg Bool.false_ne_true] at H
    replace H := Option.bind_eq_some_iff.mp H
    obtain ⟨t182, A110, H⟩ := H
    try dsimp only at H
    have A11 := Aside0.mk A110
    clear A110
    by_cases c12 : 1 ≤ (t182.size : Int)
    ·rw [if_pos c12] at H
     have c12b0 := eq_true c12
     have c12b1 : decide (1 ≤ (t182.size : Int)) = true := decide_eq_true c12
     clear c12
     replace H := Option.bind_eq_some_iff.mp H
     obtain ⟨t183, A130, H⟩ := H
     try dsimp only at H
     have A13 := Aside0.mk A130
     clear A130
     have H' := Aside0.mk H
     clear H
     go_wp2_with (first | ((with_reducible refine gate_callee (f := 59) rfl ?_); refine goesQ_ 26 Tryz.func59 #[.string a0] ?_; (with_reducible refine (impl_unescaped.calls kj1 a0 t182 _ A11.out).mono ?_); rintro e w14 ⟨rfl, hb⟩; refine ⟨_, rfl, ?_⟩; replace HB := Aside0.mk (below_step z0 hb); (try clear hb)) | ((with_reducible refine gate_callee (f := 46) rfl ?_); refine goesQ_ 28 Tryz.func46 #[.string (t182.extract 1 t182.size), .string (⟨#[47]⟩ : ByteArray)] ?_; (with_reducible refine (strings_Split.calls (t182.extract 1 t182.size) (⟨#[47]⟩ : ByteArray) t183 _ ?side1 A13.out).mono ?_); (case side1 => exact Gl.below HG.out z0); rintro e w15 ⟨v184, rfl, ho0, hb⟩; refine ⟨_, rfl, ?_⟩; have HO185 := Aside0.mk (Kd.R_lower ho0 (below_size z0)); replace HB := Aside0.mk (below_step z0 hb); (try clear hb); (try clear ho0); obtain ⟨Ao16, co16, eo16⟩ := Kd.R_slice HO185.out; subst eo16))
     go_loopg [3, 31] kj1 (fun kq v3 v31 w' => ∃ (x3_2 : List ByteArray) (x31_2 : Int), v31 = .int .i64 x31_2 ∧ Aside0 (impl_CleanPath.l0 kq x3_2 t183 t183 (t183.length : Int) x31_2 = some r) ∧ Aside0 (kq ≤ kj1) ∧ Aside0 (Kd.R Kd.string 9 w' w.heap.size (fun k_ => some k_ ≠ ((.slice Ao16 t183.length co16) : Value).ownBlock ∧ some k_ ≠ ((.slice Ao16 t183.length co16) : Value).ownBlock) v3 x3_2) ∧ Aside0 (Kd.R Kd.string 9 w' w.heap.size (fun k_ => some k_ ≠ (v3 : Value).ownBlock) (.slice Ao16 t183.length co16) t183) ∧ Aside0 (Kd.R Kd.string 9 w' w.heap.size (fun k_ => some k_ ≠ (v3 : Value).ownBlock) (.slice Ao16 t183.length co16) t183) ∧ Aside0 (Below w.heap.size w w'))
     case atStart => exact ⟨(([] : List ByteArray)), (0), z2, H', ⟨Nat.le_refl _⟩, ⟨z26⟩, ⟨z55⟩, ⟨z55⟩, ⟨z0⟩⟩
     case round =>
      clear H'
      try clear c1
      try clear p2
      try clear c4
      try clear c5
      try clear c5b0
      try clear c5b1
      try clear c7
      try clear c10
      try clear c12
      try clear c12b0
      try clear c12b1
      try clear p2
      obtain ⟨x3_2, x31_2, rfl, HA, HK2, HO_3, HO_4, HO_29, HB⟩ := hrel
      cases gk with
      | zero => exact absurd HA.out (by simp [impl_CleanPath.l0])
      | succ k2 =>
       have H := HA.out
       clear HA
       simp only [impl_CleanPath.l0] at H
       by_cases c17 : x31_2 < (t183.length : Int)
       ·rw [if_pos c17] at H
        have c17b0 : decide (x31_2 < (t183.length : Int)) = true := decide_eq_true c17
        clear c17
        by_cases c18 : 0 ≤ x31_2
        ·rw [if_pos c18] at H
         have c18b0 : decide (0 ≤ x31_2) = true := decide_eq_true c18
         clear c18
         by_cases c19 : x31_2 < (t183.length : Int)
         ·rw [if_pos c19] at H
          have c19b0 : decide (x31_2 < (t183.length : Int)) = true := decide_eq_true c19
          clear c19
          by_cases c20 : (rdOf ByteArray.empty t183 x31_2).toList = ([46] : List UInt8)
          ·rw [if_pos c20] at H
           have c20b0 : ((rdOf ByteArray.empty t183 x31_2).toList == ([46] : List UInt8)) = true := beq_iff_eq.mpr c20
           have c20b1 : ((rdOf ByteArray.empty t183 x31_2).toList != ([46] : List UInt8)) = false := bne_eq_false_iff_eq.mpr c20
           clear c20
           have H' := Aside0.mk H
           clear H
           have p196 : 0 ≤ (x31_2 : Int) := of_decide_eq_true z1
           have q196 : x31_2 < (t183.length : Int) := of_decide_eq_true z1
           obtain ⟨ad196, e196, hx196_0⟩ := Kd.at_string (Kd.R_reads' HO_29.out).2.2 x31_2 p196 q196
           cases e196
           replace p196 := eq_true p196
           replace q196 := eq_true q196
           go_wp2
           go_roundg k2
           case measure => have := HJ1.out; have := HK2.out; omega
           case rel => exact ⟨(x3_2), (wrap64 (x31_2 + 1)), z2, H', ⟨z50⟩, ⟨by (with_reducible repeat (first | apply Kd.R_alloc | apply Kd.R_drewN | apply Kd.R_drew)); first | exact HO_3.out | exact Kd.R_mono HO_3.out (fun _ hk_ => z43)⟩, ⟨z61⟩, ⟨z60⟩, ⟨z0⟩⟩
          ·rw [if_neg c20] at H
           have c20b0 : ((rdOf ByteArray.empty t183 x31_2).toList == ([46] : List UInt8)) = false := beq_eq_false_iff_ne.mpr c20
           have c20b1 : ((rdOf ByteArray.empty t183 x31_2).toList != ([46] : List UInt8)) = true := bne_iff_ne.mpr c20
           by_cases c21 : (rdOf ByteArray.empty t183 x31_2).toList = ([46, 46] : List UInt8)
           ·rw [if_pos c21] at H
            have c21b0 : ((rdOf ByteArray.empty t183 x31_2).toList == ([46, 46] : List UInt8)) = true := beq_iff_eq.mpr c21
            have c21b1 : ((rdOf ByteArray.empty t183 x31_2).toList != ([46, 46] : List UInt8)) = false := bne_eq_false_iff_eq.mpr c21
            clear c21
            obtain ⟨ji22, hji22⟩ : ∃ j_ : Int, (mx 0 (wrap64 ((x3_2.length : Int) - 1))) = j_ := ⟨_, rfl⟩
            replace H : (if 0 ≤ (ji22) then (if (ji22) ≤ (x3_2.length : Int) then (impl_CleanPath.l0 k2 (x3_2.take ((ji22) : Int).toNat) t183 t183 (t183.length : Int) (wrap64 (x31_2 + 1))) else (none)) else (none)) = some r := by first | (rw [hji22] at H; exact H) | (simp only [hji22] at H ⊢; exact H)
            have hji22_ : (if 0 < (wrap64 ((x3_2.length : Int) - 1)) then (wrap64 ((x3_2.length : Int) - 1)) else 0) = ji22 := hji22
            by_cases c23 : 0 ≤ (ji22)
            ·rw [if_pos c23] at H
             have c23b0 := eq_true c23
             have c23b1 : decide (0 ≤ (ji22)) = true := decide_eq_true c23
             clear c23
             by_cases c24 : (ji22) ≤ (x3_2.length : Int)
             ·rw [if_pos c24] at H
              have c24b0 := eq_true c24
              have c24b1 : decide ((ji22) ≤ (x3_2.length : Int)) = true := decide_eq_true c24
              clear c24
              obtain ⟨y197, hy197⟩ : ∃ y_ : List ByteArray, y_ = (x3_2.take ((ji22) : Int).toNat) := ⟨_, rfl⟩
              replace H : (impl_CleanPath.l0 k2 y197 t183 t183 (t183.length : Int) (wrap64 (x31_2 + 1))) = some r := by first | (rw [hy197]; with_reducible exact H) | (have H2_ := (Option.bind_some _ _).symm.trans H; rw [hy197]; with_reducible exact H2_) | (have H2_ := (Option.bind_some _ _).symm.trans H; with_reducible exact H2_) | with_reducible exact H | (rw [hy197]; exact H) | exact H
              have Ny197 := Aside0.mk hy197
              clear hy197
              have H' := Aside0.mk H
              clear H
              have p196 : 0 ≤ (x31_2 : Int) := of_decide_eq_true z1
              have q196 : x31_2 < (t183.length : Int) := of_decide_eq_true z1
              obtain ⟨ad196, e196, hx196_0⟩ := Kd.at_string (Kd.R_reads' HO_29.out).2.2 x31_2 p196 q196
              cases e196
              replace p196 := eq_true p196
              replace q196 := eq_true q196
              obtain ⟨Ao25, co25, eo25⟩ := Kd.R_slice HO_3.out
              subst eo25
              have q26 : ((ji22) : Int) ≤ ((x3_2.length : Int) : Int) := of_decide_eq_true z1
              obtain ⟨i026, hi026, _, hsz26, _⟩ := info_parts info9
              have hcut26 := cut_to (P := Tryz.prog) 55 9 .i64 Tryz.underlying55 hi026 Ao25 x3_2.length co25 (ji22) (of_decide_eq_true z1) q26 (Kd.R_reads' HO_3.out).2.1
              have hr26 := Kd.R_take (m := ((ji22) : Int).toNat) HO_3.out (by omega)
              have hy26 : y197.length = ((ji22) : Int).toNat := (by rw [Ny197.out, List.length_take]; omega)
              rw [← Ny197.out] at hr26
              rw [← hy26] at hr26 hcut26
              clear hy26 hi026 hsz26 HO_3
              have HO199 := Aside0.mk hr26
              clear hr26
              replace q26 := eq_true q26
              go_wp2
              go_roundg k2
              case measure => have := HJ1.out; have := HK2.out; omega
              case rel => exact ⟨(y197), (wrap64 (x31_2 + 1)), z2, H', ⟨z50⟩, ⟨by (with_reducible repeat (first | apply Kd.R_alloc | apply Kd.R_drewN | apply Kd.R_drew)); first | exact HO199.out | exact Kd.R_mono HO199.out (fun _ hk_ => z43)⟩, ⟨z61⟩, ⟨z60⟩, ⟨z0⟩⟩
             ·rw [if_neg c24] at H
              exact absurd H (by simp)
            ·rw [if_neg c23] at H
             exact absurd H (by simp)
           ·rw [if_neg c21] at H
            have c21b0 : ((rdOf ByteArray.empty t183 x31_2).toList == ([46, 46] : List UInt8)) = false := beq_eq_false_iff_ne.mpr c21
            have c21b1 : ((rdOf ByteArray.empty t183 x31_2).toList != ([46, 46] : List UInt8)) = true := bne_iff_ne.mpr c21
            by_cases c27 : x3_2.length < 8796093022208
            ·rw [if_pos c27] at H
             have LMc27 := Aside0.mk c27
             clear c27
             obtain ⟨y200, hy200⟩ : ∃ y_ : List ByteArray, y_ = (x3_2 ++ [rdOf ByteArray.empty t183 x31_2]) := ⟨_, rfl⟩
             replace H : (impl_CleanPath.l0 k2 y200 t183 t183 (t183.length : Int) (wrap64 (x31_2 + 1))) = some r := by first | (rw [hy200]; with_reducible exact H) | (have H2_ := (Option.bind_some _ _).symm.trans H; rw [hy200]; with_reducible exact H2_) | (have H2_ := (Option.bind_some _ _).symm.trans H; with_reducible exact H2_) | with_reducible exact H | (rw [hy200]; exact H) | exact H
             have Ny200 := Aside0.mk hy200
             clear hy200
             have H' := Aside0.mk H
             clear H
             have p196 : 0 ≤ (x31_2 : Int) := of_decide_eq_true z1
             have q196 : x31_2 < (t183.length : Int) := of_decide_eq_true z1
             obtain ⟨ad196, e196, hx196_0⟩ := Kd.at_string (Kd.R_reads' HO_29.out).2.2 x31_2 p196 q196
             cases e196
             replace p196 := eq_true p196
             replace q196 := eq_true q196
             go_wp2_with (first | ((with_reducible refine gate_builtin (b := .append) (xs := #[.tmp 36, .tmp 38]) rfl ?_); (try (refine gate_guard (by rfl) ?_; dsimp only)); at_builtin; refine Kd.R_append Kd.string (w0 := w) w.heap.size rfl (.tmp 36) (.tmp 38) 55 9 (.string ⟨#[]⟩) 16 rfl Tryz.underlying55 info9 rfl (by decide) (by omega) u3 x3_2 (rdOf ByteArray.empty t183 x31_2) [.string (rdOf ByteArray.empty t183 x31_2)] (fun k_ => some k_ ≠ (.slice (some ad196) t183.length co16 : Value).ownBlock ∧ some k_ ≠ (.slice (some ad196) t183.length co16 : Value).ownBlock) (fun _ => False) rfl rfl ?aP (fun _ hk => hk.elim) ?aF ?aO ?aB ?aS ?aL ?_; (case aP => exact rfl); (case aB => exact z0); (case aF => exact (fun k_ hk => ⟨Kd.fresh' (Kd.R_lt z24) k_ hk, Kd.fresh' (Kd.R_lt z30) k_ hk⟩)); (case aO => exact z14); (case aS => exact (below_size z0)); (case aL => have := LMc27.out; omega); intro v201 w28 ho hb hg hat; rw [← Ny200.out] at ho; replace HO_4 := Aside0.mk (Kd.R_after (ok := (fun _ => True)) z28 hg hat); replace HO_29 := Aside0.mk (Kd.R_after (ok := (fun _ => True)) z40 hg hat); replace HB := Aside0.mk (hb); have HO202 := Aside0.mk (ho); clear HO_3; clear ho hb hg hat))
             go_roundg k2
             case measure => have := HJ1.out; have := HK2.out; omega
             case rel => exact ⟨(y200), (wrap64 (x31_2 + 1)), z2, H', ⟨z50⟩, ⟨by (with_reducible repeat (first | apply Kd.R_alloc | apply Kd.R_drewN | apply Kd.R_drew)); first | exact HO202.out | exact Kd.R_mono HO202.out (fun _ hk_ => z43)⟩, ⟨z41⟩, ⟨by (with_reducible repeat (first | apply Kd.R_alloc | apply Kd.R_drewN | apply Kd.R_drew)); exact Kd.R_mono HO_29.out (fun _ hk => hk.2)⟩, ⟨z0⟩⟩
            ·rw [if_neg c27] at H
             exact absurd H (by simp)
         ·rw [if_neg c19] at H
          exact absurd H (by simp)
        ·rw [if_neg c18] at H
         exact absurd H (by simp)
       ·rw [if_neg c17] at H
        have c17b0 : decide (x31_2 < (t183.length : Int)) = false := decide_eq_false c17
        clear c17
        obtain ⟨ji29, hji29⟩ : ∃ j_ : Int, (wrap64 ((t183.length : Int) - 1)) = j_ := ⟨_, rfl⟩
        replace H : (if 0 ≤ (ji29) then (if (ji29) < (t183.length : Int) then (if (rdOf ByteArray.empty t183 (ji29)).toList = ([46] : List UInt8) then (if x3_2.length < 8796093022208 then ((strings_Join.f (x3_2 ++ [(⟨#[]⟩ : ByteArray)]) (⟨#[47]⟩ : ByteArray)).bind fun t190 => (if 1 + t190.size ≤ 9223372036854775807 then (some ((⟨#[47]⟩ : ByteArray) ++ t190)) else (none))) else (none)) else (if (rdOf ByteArray.empty t183 (ji29)).toList = ([46, 46] : List UInt8) then (if x3_2.length < 8796093022208 then ((strings_Join.f (x3_2 ++ [(⟨#[]⟩ : ByteArray)]) (⟨#[47]⟩ : ByteArray)).bind fun t194 => (if 1 + t194.size ≤ 9223372036854775807 then (some ((⟨#[47]⟩ : ByteArray) ++ t194)) else (none))) else (none)) else ((strings_Join.f x3_2 (⟨#[47]⟩ : ByteArray)).bind fun t195 => (if 1 + t195.size ≤ 9223372036854775807 then (some ((⟨#[47]⟩ : ByteArray) ++ t195)) else (none))))) else (none)) else (none)) = some r := by first | (rw [hji29] at H; exact H) | (simp only [hji29] at H ⊢; exact H)
        have hji29w : (IntKind.i64.wrap ((t183.length : Int) - 1)) = ji29 := (i64_w _).trans hji29
        by_cases c30 : 0 ≤ (ji29)
        ·rw [if_pos c30] at H
         have c30b0 : decide (0 ≤ (ji29)) = true := decide_eq_true c30
         clear c30
         by_cases c31 : (ji29) < (t183.length : Int)
         ·rw [if_pos c31] at H
          have c31b0 : decide ((ji29) < (t183.length : Int)) = true := decide_eq_true c31
          clear c31
          by_cases c32 : (rdOf ByteArray.empty t183 (ji29)).toList = ([46] : List UInt8)
          ·rw [if_pos c32] at H
           have c32b0 : ((rdOf ByteArray.empty t183 (ji29)).toList == ([46] : List UInt8)) = true := beq_iff_eq.mpr c32
           have c32b1 : ((rdOf ByteArray.empty t183 (ji29)).toList != ([46] : List UInt8)) = false := bne_eq_false_iff_eq.mpr c32
           clear c32
           by_cases c33 : x3_2.length < 8796093022208
           ·rw [if_pos c33] at H
            have LMc33 := Aside0.mk c33
            clear c33
            obtain ⟨y187, hy187⟩ : ∃ y_ : List ByteArray, y_ = (x3_2 ++ [(⟨#[]⟩ : ByteArray)]) := ⟨_, rfl⟩
            replace H : ((strings_Join.f y187 (⟨#[47]⟩ : ByteArray)).bind fun t190 => (if 1 + t190.size ≤ 9223372036854775807 then (some ((⟨#[47]⟩ : ByteArray) ++ t190)) else (none))) = some r := by first | (rw [hy187]; with_reducible exact H) | (have H2_ := (Option.bind_some _ _).symm.trans H; rw [hy187]; with_reducible exact H2_) | (have H2_ := (Option.bind_some _ _).symm.trans H; with_reducible exact H2_) | with_reducible exact H | (rw [hy187]; exact H) | exact H
            have Ny187 := Aside0.mk hy187
            clear hy187
            replace H := Option.bind_eq_some_iff.mp H
            obtain ⟨t190, A340, H⟩ := H
            try dsimp only at H
            have A34 := Aside0.mk A340
            clear A340
            by_cases c35 : 1 + t190.size ≤ 9223372036854775807
            ·rw [if_pos c35] at H
             have c35b0 := eq_true c35
             have c35b1 : decide (1 + t190.size ≤ 9223372036854775807) = true := decide_eq_true c35
             try have c35b2 : (9223372036854775807 < 1 + t190.size) = False := eq_false (Nat.not_lt.2 c35)
             obtain rfl := Option.some.inj H
             have p186 : 0 ≤ ((ji29) : Int) := of_decide_eq_true z1
             have q186 : (ji29) < (t183.length : Int) := of_decide_eq_true z1
             obtain ⟨ad186, e186, hx186_0⟩ := Kd.at_string (Kd.R_reads' HO_4.out).2.2 (ji29) p186 q186
             cases e186
             replace p186 := eq_true p186
             replace q186 := eq_true q186
             go_wp2_with (first | ((with_reducible refine gate_builtin (b := .append) (xs := #[.tmp 63, .tmp 64]) rfl ?_); (try (refine gate_guard (by rfl) ?_; dsimp only)); at_builtin; refine Kd.R_append Kd.string (w0 := w) w.heap.size rfl (.tmp 63) (.tmp 64) 55 9 (.string ⟨#[]⟩) 16 rfl Tryz.underlying55 info9 rfl (by decide) (by omega) u3 x3_2 (⟨#[]⟩ : ByteArray) [.string (⟨#[]⟩ : ByteArray)] (fun k_ => some k_ ≠ (.slice (some ad186) t183.length co16 : Value).ownBlock ∧ some k_ ≠ (.slice (some ad186) t183.length co16 : Value).ownBlock) (fun _ => False) rfl rfl ?aP (fun _ hk => hk.elim) ?aF ?aO ?aB ?aS ?aL ?_; (case aP => exact rfl); (case aB => exact z0); (case aF => exact (fun k_ hk => ⟨Kd.fresh' (Kd.R_lt z24) k_ hk, Kd.fresh' (Kd.R_lt z30) k_ hk⟩)); (case aO => exact z14); (case aS => exact (below_size z0)); (case aL => have := LMc33.out; omega); intro v188 w36 ho hb hg hat; rw [← Ny187.out] at ho; replace HO_4 := Aside0.mk (Kd.R_after (ok := (fun _ => True)) z28 hg hat); replace HO_29 := Aside0.mk (Kd.R_after (ok := (fun _ => True)) z40 hg hat); replace HB := Aside0.mk (hb); have HO189 := Aside0.mk (ho); clear HO_3; clear ho hb hg hat; obtain ⟨Ao37, co37, eo37⟩ := Kd.R_slice HO189.out; subst eo37) | ((with_reducible refine gate_callee (f := 44) rfl ?_); refine goesQ_ 67 Tryz.func44 #[.slice Ao37 y187.length co37, .string (⟨#[47]⟩ : ByteArray)] ?_; (with_reducible refine (strings_Join.calls _ _ y187 (⟨#[47]⟩ : ByteArray) t190 _ ?side1 ?side2 A34.out).mono ?_); (case side1 => repeat (first | exact (Kd.R_reads' HO189.out).2.2 | (with_reducible refine Kd.C_alloc ?_ _) | (with_reducible refine Kd.C_drewN ?_ _) | (with_reducible refine Kd.C_drew ?_))); (case side2 => exact (Kd.R_reads' HO189.out).2.1); rintro e w38 ⟨rfl, hb⟩; refine ⟨_, rfl, ?_⟩; replace HO_4 := Aside0.mk (Kd.R_below z24 hb); replace HO_29 := Aside0.mk (Kd.R_below z30 hb); replace HO189 := Aside0.mk (Kd.R_below (by (with_reducible repeat (first | apply Kd.R_alloc | apply Kd.R_drewN | apply Kd.R_drew)); exact HO189.out) hb); replace HB := Aside0.mk (below_step z0 hb); (try clear hb)))
             go_ret
             exact ⟨z29, z0⟩
            ·rw [if_neg c35] at H
             exact absurd H (by simp)
           ·rw [if_neg c33] at H
            exact absurd H (by simp)
          ·rw [if_neg c32] at H
           have c32b0 : ((rdOf ByteArray.empty t183 (ji29)).toList == ([46] : List UInt8)) = false := beq_eq_false_iff_ne.mpr c32
           have c32b1 : ((rdOf ByteArray.empty t183 (ji29)).toList != ([46] : List UInt8)) = true := bne_iff_ne.mpr c32
           by_cases c39 : (rdOf ByteArray.empty t183 (ji29)).toList = ([46, 46] : List UInt8)
           ·rw [if_pos c39] at H
            have c39b0 : ((rdOf ByteArray.empty t183 (ji29)).toList == ([46, 46] : List UInt8)) = true := beq_iff_eq.mpr c39
            have c39b1 : ((rdOf ByteArray.empty t183 (ji29)).toList != ([46, 46] : List UInt8)) = false := bne_eq_false_iff_eq.mpr c39
            clear c39
            by_cases c40 : x3_2.length < 8796093022208
            ·rw [if_pos c40] at H
             have LMc40 := Aside0.mk c40
             clear c40
             obtain ⟨y191, hy191⟩ : ∃ y_ : List ByteArray, y_ = (x3_2 ++ [(⟨#[]⟩ : ByteArray)]) := ⟨_, rfl⟩
             replace H : ((strings_Join.f y191 (⟨#[47]⟩ : ByteArray)).bind fun t194 => (if 1 + t194.size ≤ 9223372036854775807 then (some ((⟨#[47]⟩ : ByteArray) ++ t194)) else (none))) = some r := by first | (rw [hy191]; with_reducible exact H) | (have H2_ := (Option.bind_some _ _).symm.trans H; rw [hy191]; with_reducible exact H2_) | (have H2_ := (Option.bind_some _ _).symm.trans H; with_reducible exact H2_) | with_reducible exact H | (rw [hy191]; exact H) | exact H
             have Ny191 := Aside0.mk hy191
             clear hy191
             replace H := Option.bind_eq_some_iff.mp H
             obtain ⟨t194, A410, H⟩ := H
             try dsimp only at H
             have A41 := Aside0.mk A410
             clear A410
             by_cases c42 : 1 + t194.size ≤ 9223372036854775807
             ·rw [if_pos c42] at H
              have c42b0 := eq_true c42
              have c42b1 : decide (1 + t194.size ≤ 9223372036854775807) = true := decide_eq_true c42
              try have c42b2 : (9223372036854775807 < 1 + t194.size) = False := eq_false (Nat.not_lt.2 c42)
              obtain rfl := Option.some.inj H
              have p186 : 0 ≤ ((ji29) : Int) := of_decide_eq_true z1
              have q186 : (ji29) < (t183.length : Int) := of_decide_eq_true z1
              obtain ⟨ad186, e186, hx186_0⟩ := Kd.at_string (Kd.R_reads' HO_4.out).2.2 (ji29) p186 q186
              cases e186
              replace p186 := eq_true p186
              replace q186 := eq_true q186
              go_wp2_with (first | ((with_reducible refine gate_builtin (b := .append) (xs := #[.tmp 63, .tmp 64]) rfl ?_); (try (refine gate_guard (by rfl) ?_; dsimp only)); at_builtin; refine Kd.R_append Kd.string (w0 := w) w.heap.size rfl (.tmp 63) (.tmp 64) 55 9 (.string ⟨#[]⟩) 16 rfl Tryz.underlying55 info9 rfl (by decide) (by omega) u3 x3_2 (⟨#[]⟩ : ByteArray) [.string (⟨#[]⟩ : ByteArray)] (fun k_ => some k_ ≠ (.slice (some ad186) t183.length co16 : Value).ownBlock ∧ some k_ ≠ (.slice (some ad186) t183.length co16 : Value).ownBlock) (fun _ => False) rfl rfl ?aP (fun _ hk => hk.elim) ?aF ?aO ?aB ?aS ?aL ?_; (case aP => exact rfl); (case aB => exact z0); (case aF => exact (fun k_ hk => ⟨Kd.fresh' (Kd.R_lt z24) k_ hk, Kd.fresh' (Kd.R_lt z30) k_ hk⟩)); (case aO => exact z14); (case aS => exact (below_size z0)); (case aL => have := LMc40.out; omega); intro v192 w43 ho hb hg hat; rw [← Ny191.out] at ho; replace HO_4 := Aside0.mk (Kd.R_after (ok := (fun _ => True)) z28 hg hat); replace HO_29 := Aside0.mk (Kd.R_after (ok := (fun _ => True)) z40 hg hat); replace HB := Aside0.mk (hb); have HO193 := Aside0.mk (ho); clear HO_3; clear ho hb hg hat; obtain ⟨Ao44, co44, eo44⟩ := Kd.R_slice HO193.out; subst eo44) | ((with_reducible refine gate_callee (f := 44) rfl ?_); refine goesQ_ 67 Tryz.func44 #[.slice Ao44 y191.length co44, .string (⟨#[47]⟩ : ByteArray)] ?_; (with_reducible refine (strings_Join.calls _ _ y191 (⟨#[47]⟩ : ByteArray) t194 _ ?side1 ?side2 A41.out).mono ?_); (case side1 => repeat (first | exact (Kd.R_reads' HO193.out).2.2 | (with_reducible refine Kd.C_alloc ?_ _) | (with_reducible refine Kd.C_drewN ?_ _) | (with_reducible refine Kd.C_drew ?_))); (case side2 => exact (Kd.R_reads' HO193.out).2.1); rintro e w45 ⟨rfl, hb⟩; refine ⟨_, rfl, ?_⟩; replace HO_4 := Aside0.mk (Kd.R_below z24 hb); replace HO_29 := Aside0.mk (Kd.R_below z30 hb); replace HO193 := Aside0.mk (Kd.R_below (by (with_reducible repeat (first | apply Kd.R_alloc | apply Kd.R_drewN | apply Kd.R_drew)); exact HO193.out) hb); replace HB := Aside0.mk (below_step z0 hb); (try clear hb)))
              go_ret
              exact ⟨z29, z0⟩
             ·rw [if_neg c42] at H
              exact absurd H (by simp)
            ·rw [if_neg c40] at H
             exact absurd H (by simp)
           ·rw [if_neg c39] at H
            have c39b0 : ((rdOf ByteArray.empty t183 (ji29)).toList == ([46, 46] : List UInt8)) = false := beq_eq_false_iff_ne.mpr c39
            have c39b1 : ((rdOf ByteArray.empty t183 (ji29)).toList != ([46, 46] : List UInt8)) = true := bne_iff_ne.mpr c39
            replace H := Option.bind_eq_some_iff.mp H
            obtain ⟨t195, A460, H⟩ := H
            try dsimp only at H
            have A46 := Aside0.mk A460
            clear A460
            by_cases c47 : 1 + t195.size ≤ 9223372036854775807
            ·rw [if_pos c47] at H
             have c47b0 := eq_true c47
             have c47b1 : decide (1 + t195.size ≤ 9223372036854775807) = true := decide_eq_true c47
             try have c47b2 : (9223372036854775807 < 1 + t195.size) = False := eq_false (Nat.not_lt.2 c47)
             obtain rfl := Option.some.inj H
             have p186 : 0 ≤ ((ji29) : Int) := of_decide_eq_true z1
             have q186 : (ji29) < (t183.length : Int) := of_decide_eq_true z1
             obtain ⟨ad186, e186, hx186_0⟩ := Kd.at_string (Kd.R_reads' HO_4.out).2.2 (ji29) p186 q186
             cases e186
             replace p186 := eq_true p186
             replace q186 := eq_true q186
             obtain ⟨Ao48, co48, eo48⟩ := Kd.R_slice HO_3.out
             subst eo48
             go_wp2_with (first | ((with_reducible refine gate_callee (f := 44) rfl ?_); refine goesQ_ 67 Tryz.func44 #[.slice Ao48 x3_2.length co48, .string (⟨#[47]⟩ : ByteArray)] ?_; (with_reducible refine (strings_Join.calls _ _ x3_2 (⟨#[47]⟩ : ByteArray) t195 _ ?side1 ?side2 A46.out).mono ?_); (case side1 => repeat (first | exact (Kd.R_reads' HO_3.out).2.2 | (with_reducible refine Kd.C_alloc ?_ _) | (with_reducible refine Kd.C_drewN ?_ _) | (with_reducible refine Kd.C_drew ?_))); (case side2 => exact (Kd.R_reads' HO_3.out).2.1); rintro e w49 ⟨rfl, hb⟩; refine ⟨_, rfl, ?_⟩; replace HO_3 := Aside0.mk (Kd.R_below z14 hb); replace HO_4 := Aside0.mk (Kd.R_below z24 hb); replace HO_29 := Aside0.mk (Kd.R_below z30 hb); replace HB := Aside0.mk (below_step z0 hb); (try clear hb)))
             go_ret
             exact ⟨z29, z0⟩
            ·rw [if_neg c47] at H
             exact absurd H (by simp)
         ·rw [if_neg c31] at H
          exact absurd H (by simp)
        ·rw [if_neg c30] at H
         exact absurd H (by simp)
    ·rw [if_neg c12] at H
     exact absurd H (by simp)

/-! ### spec_l6visible: function 28 -/
def spec_l6visible.l0 : Nat → ByteArray → Int → Option (Bool)
 | 0, _, _ => none
 | k + 1, x0, x3 => if x3 < (x0.size : Int) then (if 0 ≤ x3 then (if (bt x0 x3) < 33 then (some false) else (if (bt x0 x3) > 126 then (some false) else (spec_l6visible.l0 k x0 (wrap64 (x3 + 1))))) else (none)) else (some (decide ((x0.size : Int) > 0)))
def spec_l6visible.f (k : Nat) (a0 : ByteArray) : Option (Bool) := spec_l6visible.l0 k a0 0
theorem spec_l6visible.mono_l : ∀ k, (∀ y0 y1, LeO (spec_l6visible.l0 k y0 y1) (spec_l6visible.l0 (k + 1) y0 y1))
 | 0 => fun _ _ r h => by simp [spec_l6visible.l0] at h
 | k + 1 => by
  have ih0 := spec_l6visible.mono_l k
  ·intro y0 y1
   unfold spec_l6visible.l0
   repeat' first | (with_reducible first | exact ih0 _ _ | exact LeO.refl _ | exact LeO.none _ | refine LeO.ite ?_ ?_ | refine LeO.bind ?_ (fun _ => ?_)) | exact ih0 _ _ | exact LeO.none _ | refine LeO.ite ?_ ?_ | refine LeO.bind ?_ (fun _ => ?_)
theorem spec_l6visible.mono : ∀ a0 k, LeO (spec_l6visible.f k a0) (spec_l6visible.f (k + 1) a0) := by
 intro a0 k
 have ih0 := spec_l6visible.mono_l k
 unfold spec_l6visible.f
 repeat' first | (with_reducible first | exact ih0 _ _ | exact LeO.refl _ | exact LeO.none _ | refine LeO.ite ?_ ?_ | refine LeO.bind ?_ (fun _ => ?_)) | exact ih0 _ _ | exact LeO.none _ | refine LeO.ite ?_ ?_ | refine LeO.bind ?_ (fun _ => ?_)
set_option maxHeartbeats 8000000 in
set_option maxRecDepth 100000 in
theorem spec_l6visible.calls (k : Nat) (a0 : ByteArray) (r : Bool) (w : World) (h : spec_l6visible.f k a0 = some r) :
  Calls Tryz.prog 28 #[.string a0] w fun e w' => e = .returned (.bool r) ∧ Drawn0 w w' := by
 have H : (spec_l6visible.l0 k a0 0) = some r := h
 clear h
 have H' := Aside0.mk H
 clear H
 go_enter Tryz.func28, Tryz.ntmps28
 go_wp2
 go_loopg [3] k (fun kq v3 w' => ∃ (x3_1 : Int), v3 = .int .i64 x3_1 ∧ Aside0 (spec_l6visible.l0 kq a0 x3_1 = some r) ∧ Aside0 (kq ≤ k) ∧ Drawn0 w w')
 case atStart => exact ⟨(0), z2, H', ⟨Nat.le_refl _⟩, z6⟩
 case round =>
  clear H'
  obtain ⟨x3_1, rfl, HA, HK1, ⟨m1, rfl⟩⟩ := hrel
  cases gk with
  | zero => exact absurd HA.out (by simp [spec_l6visible.l0])
  | succ k1 =>
   have H := HA.out
   clear HA
   simp only [spec_l6visible.l0] at H
   by_cases c2 : x3_1 < (a0.size : Int)
   ·rw [if_pos c2] at H
    have c2b0 : decide (x3_1 < (a0.size : Int)) = true := decide_eq_true c2
    clear c2
    by_cases c3 : 0 ≤ x3_1
    ·rw [if_pos c3] at H
     have c3b0 : decide (0 ≤ x3_1) = true := decide_eq_true c3
     clear c3
     by_cases c5 : (bt a0 x3_1) < 33
     ·rw [if_pos c5] at H
      have c5b0 : decide ((bt a0 x3_1) < 33) = true := decide_eq_true c5
      clear c5
      obtain rfl := Option.some.inj H
      have p4 : 0 ≤ (x3_1 : Int) := of_decide_eq_true z1
      have q4 : x3_1 < (a0.size : Int) := of_decide_eq_true z1
      have hx4 := bt_at a0 x3_1
      replace p4 := eq_true p4
      replace q4 := eq_true q4
      go_wp2
      go_ret
      exact ⟨z2, z6⟩
     ·rw [if_neg c5] at H
      have c5b0 : decide ((bt a0 x3_1) < 33) = false := decide_eq_false c5
      clear c5
      by_cases c7 : (bt a0 x3_1) > 126
      ·rw [if_pos c7] at H
       have c7b0 : decide (126 < (bt a0 x3_1)) = true := decide_eq_true c7
       clear c7
       obtain rfl := Option.some.inj H
       have p4 : 0 ≤ (x3_1 : Int) := of_decide_eq_true z1
       have q4 : x3_1 < (a0.size : Int) := of_decide_eq_true z1
       have hx4 := bt_at a0 x3_1
       replace p4 := eq_true p4
       replace q4 := eq_true q4
       have p6 : 0 ≤ (x3_1 : Int) := of_decide_eq_true z1
       have q6 : x3_1 < (a0.size : Int) := of_decide_eq_true z1
       have hx6 := bt_at a0 x3_1
       replace p6 := eq_true p6
       replace q6 := eq_true q6
       go_wp2
       go_ret
       exact ⟨z2, z6⟩
      ·rw [if_neg c7] at H
       have c7b0 : decide (126 < (bt a0 x3_1)) = false := decide_eq_false c7
       clear c7
       have H' := Aside0.mk H
       clear H
       have p4 : 0 ≤ (x3_1 : Int) := of_decide_eq_true z1
       have q4 : x3_1 < (a0.size : Int) := of_decide_eq_true z1
       have hx4 := bt_at a0 x3_1
       replace p4 := eq_true p4
       replace q4 := eq_true q4
       have p6 : 0 ≤ (x3_1 : Int) := of_decide_eq_true z1
       have q6 : x3_1 < (a0.size : Int) := of_decide_eq_true z1
       have hx6 := bt_at a0 x3_1
       replace p6 := eq_true p6
       replace q6 := eq_true q6
       go_wp2
       go_roundg k1
       case measure => have := HK1.out; omega
       case rel => exact ⟨(wrap64 (x3_1 + 1)), z2, H', ⟨z46⟩, z6⟩
    ·rw [if_neg c3] at H
     exact absurd H (by simp)
   ·rw [if_neg c2] at H
    have c2b0 : decide (x3_1 < (a0.size : Int)) = false := decide_eq_false c2
    clear c2
    obtain rfl := Option.some.inj H
    go_wp2
    go_ret
    exact ⟨z2, z6⟩

/-! ### spec_l7split: function 60 -/
def spec_l7split.l0 : Nat → ByteArray → Int → List ByteArray → Int → Int → Option (List ByteArray)
 | 0, _, _, _, _, _ => none
 | k + 1, x0, x1, x5, x6, x7 => if x7 ≤ (x0.size : Int) then (if x7 = (x0.size : Int) then (if 0 ≤ x6 then (if x6 ≤ x7 then (if x5.length < 8796093022208 then (spec_l7split.l0 k x0 x1 (x5 ++ [x0.extract (x6 : Int).toNat (x7 : Int).toNat]) (wrap64 (x7 + 1)) (wrap64 (x7 + 1))) else (none)) else (none)) else (none)) else (if 0 ≤ x7 then (if x7 < (x0.size : Int) then (if (bt x0 x7) = x1 then (if 0 ≤ x6 then (if x6 ≤ x7 then (if x5.length < 8796093022208 then (spec_l7split.l0 k x0 x1 (x5 ++ [x0.extract (x6 : Int).toNat (x7 : Int).toNat]) (wrap64 (x7 + 1)) (wrap64 (x7 + 1))) else (none)) else (none)) else (none)) else (spec_l7split.l0 k x0 x1 x5 x6 (wrap64 (x7 + 1)))) else (none)) else (none))) else (some x5)
def spec_l7split.f (k : Nat) (a0 : ByteArray) (a1 : Int) : Option (List ByteArray) := spec_l7split.l0 k a0 a1 ([] : List ByteArray) 0 0
theorem spec_l7split.mono_l : ∀ k, (∀ y0 y1 y2 y3 y4, LeO (spec_l7split.l0 k y0 y1 y2 y3 y4) (spec_l7split.l0 (k + 1) y0 y1 y2 y3 y4))
 | 0 => fun _ _ _ _ _ r h => by simp [spec_l7split.l0] at h
 | k + 1 => by
  have ih0 := spec_l7split.mono_l k
  ·intro y0 y1 y2 y3 y4
   unfold spec_l7split.l0
   repeat' first | (with_reducible first | exact ih0 _ _ _ _ _ | exact LeO.refl _ | exact LeO.none _ | refine LeO.ite ?_ ?_ | refine LeO.bind ?_ (fun _ => ?_)) | exact ih0 _ _ _ _ _ | exact LeO.none _ | refine LeO.ite ?_ ?_ | refine LeO.bind ?_ (fun _ => ?_)
theorem spec_l7split.mono : ∀ a0 a1 k, LeO (spec_l7split.f k a0 a1) (spec_l7split.f (k + 1) a0 a1) := by
 intro a0 a1 k
 have ih0 := spec_l7split.mono_l k
 unfold spec_l7split.f
 repeat' first | (with_reducible first | exact ih0 _ _ _ _ _ | exact LeO.refl _ | exact LeO.none _ | refine LeO.ite ?_ ?_ | refine LeO.bind ?_ (fun _ => ?_)) | exact ih0 _ _ _ _ _ | exact LeO.none _ | refine LeO.ite ?_ ?_ | refine LeO.bind ?_ (fun _ => ?_)
set_option maxHeartbeats 8000000 in
set_option maxRecDepth 100000 in
theorem spec_l7split.calls (k : Nat) (a0 : ByteArray) (a1 : Int) (r : List ByteArray) (w : World) (h : spec_l7split.f k a0 a1 = some r) :
  Calls Tryz.prog 60 #[.string a0, .int .u8 a1] w fun e w' => ∃ v0_ : Value, e = .returned (v0_) ∧ Kd.R Kd.string 9 w' w.heap.size (fun _ => True) v0_ r ∧ Below w.heap.size w w' := by
 have HB := Aside0.mk (Below.refl w.heap.size w)
 have H : (spec_l7split.l0 k a0 a1 ([] : List ByteArray) 0 0) = some r := h
 clear h
 have H' := Aside0.mk H
 clear H
 go_enter Tryz.func60, Tryz.ntmps60
 go_wp2
 go_loopg [5, 6, 7] k (fun kq v5 v6 v7 w' => ∃ (x5_1 : List ByteArray) (x6_1 : Int) (x7_1 : Int), v6 = .int .i64 x6_1 ∧ v7 = .int .i64 x7_1 ∧ Aside0 (spec_l7split.l0 kq a0 a1 x5_1 x6_1 x7_1 = some r) ∧ Aside0 (kq ≤ k) ∧ Aside0 (Kd.R Kd.string 9 w' w.heap.size (fun _ => True) v5 x5_1) ∧ Aside0 (Below w.heap.size w w'))
 case atStart => exact ⟨(([] : List ByteArray)), (0), (0), z2, z2, H', ⟨Nat.le_refl _⟩, ⟨z26⟩, ⟨z0⟩⟩
 case round =>
  clear H'
  try clear p2
  obtain ⟨x5_1, x6_1, x7_1, rfl, rfl, HA, HK1, HO_5, HB⟩ := hrel
  cases gk with
  | zero => exact absurd HA.out (by simp [spec_l7split.l0])
  | succ k1 =>
   have H := HA.out
   clear HA
   simp only [spec_l7split.l0] at H
   by_cases c3 : x7_1 ≤ (a0.size : Int)
   ·rw [if_pos c3] at H
    have c3b0 : decide (x7_1 ≤ (a0.size : Int)) = true := decide_eq_true c3
    clear c3
    by_cases c4 : x7_1 = (a0.size : Int)
    ·rw [if_pos c4] at H
     have c4b0 : (x7_1 == (a0.size : Int)) = true := beq_iff_eq.mpr c4
     have c4b1 : (x7_1 != (a0.size : Int)) = false := bne_eq_false_iff_eq.mpr c4
     clear c4
     by_cases c5 : 0 ≤ x6_1
     ·rw [if_pos c5] at H
      have c5b0 := eq_true c5
      have c5b1 : decide (0 ≤ x6_1) = true := decide_eq_true c5
      clear c5
      by_cases c6 : x6_1 ≤ x7_1
      ·rw [if_pos c6] at H
       have c6b0 := eq_true c6
       have c6b1 : decide (x6_1 ≤ x7_1) = true := decide_eq_true c6
       clear c6
       have c7b0 := eq_true (of_decide_eq_true z1 : x7_1 ≤ (a0.size : Int))
       by_cases c8 : x5_1.length < 8796093022208
       ·rw [if_pos c8] at H
        have LMc8 := Aside0.mk c8
        clear c8
        obtain ⟨y203, hy203⟩ : ∃ y_ : List ByteArray, y_ = (x5_1 ++ [a0.extract (x6_1 : Int).toNat (x7_1 : Int).toNat]) := ⟨_, rfl⟩
        replace H : (spec_l7split.l0 k1 a0 a1 y203 (wrap64 (x7_1 + 1)) (wrap64 (x7_1 + 1))) = some r := by first | (rw [hy203]; with_reducible exact H) | (have H2_ := (Option.bind_some _ _).symm.trans H; rw [hy203]; with_reducible exact H2_) | (have H2_ := (Option.bind_some _ _).symm.trans H; with_reducible exact H2_) | with_reducible exact H | (rw [hy203]; exact H) | exact H
        have Ny203 := Aside0.mk hy203
        clear hy203
        have H' := Aside0.mk H
        clear H
        go_wp2_with (first | ((with_reducible refine gate_builtin (b := .append) (xs := #[.tmp 25, .tmp 30]) rfl ?_); at_builtin; refine Kd.R_append Kd.string (w0 := w) w.heap.size rfl (.tmp 25) (.tmp 30) 55 9 (.string ⟨#[]⟩) 16 rfl Tryz.underlying55 info9 rfl (by decide) (by omega) u5 x5_1 (a0.extract (x6_1 : Int).toNat (x7_1 : Int).toNat) [.string (a0.extract (x6_1 : Int).toNat (x7_1 : Int).toNat)] (fun _ => True) (fun _ => False) rfl rfl ?aP (fun _ hk => hk.elim) ?aF ?aO ?aB ?aS ?aL ?_; (case aP => exact rfl); (case aB => exact z0); (case aF => exact (fun _ _ => trivial)); (case aO => exact z31); (case aS => exact (below_size z0)); (case aL => have := LMc8.out; omega); intro v204 w9 ho hb hg hat; rw [← Ny203.out] at ho; replace HB := Aside0.mk (hb); have HO205 := Aside0.mk (ho); clear HO_5; clear ho hb hg hat))
        go_roundg k1
        case measure => have := HK1.out; omega
        case rel => exact ⟨(y203), (wrap64 (x7_1 + 1)), (wrap64 (x7_1 + 1)), z2, z2, H', ⟨z46⟩, ⟨by (with_reducible repeat (first | apply Kd.R_alloc | apply Kd.R_drewN | apply Kd.R_drew)); exact HO205.out⟩, ⟨z0⟩⟩
       ·rw [if_neg c8] at H
        exact absurd H (by simp)
      ·rw [if_neg c6] at H
       exact absurd H (by simp)
     ·rw [if_neg c5] at H
      exact absurd H (by simp)
    ·rw [if_neg c4] at H
     have c4b0 : (x7_1 == (a0.size : Int)) = false := beq_eq_false_iff_ne.mpr c4
     have c4b1 : (x7_1 != (a0.size : Int)) = true := bne_iff_ne.mpr c4
     by_cases c10 : 0 ≤ x7_1
     ·rw [if_pos c10] at H
      have c10b0 : decide (0 ≤ x7_1) = true := decide_eq_true c10
      clear c10
      by_cases c11 : x7_1 < (a0.size : Int)
      ·rw [if_pos c11] at H
       have c11b0 : decide (x7_1 < (a0.size : Int)) = true := decide_eq_true c11
       clear c11
       by_cases c13 : (bt a0 x7_1) = a1
       ·rw [if_pos c13] at H
        have c13b0 : ((bt a0 x7_1) == a1) = true := beq_iff_eq.mpr c13
        have c13b1 : ((bt a0 x7_1) != a1) = false := bne_eq_false_iff_eq.mpr c13
        clear c13
        by_cases c14 : 0 ≤ x6_1
        ·rw [if_pos c14] at H
         have c14b0 := eq_true c14
         have c14b1 : decide (0 ≤ x6_1) = true := decide_eq_true c14
         clear c14
         by_cases c15 : x6_1 ≤ x7_1
         ·rw [if_pos c15] at H
          have c15b0 := eq_true c15
          have c15b1 : decide (x6_1 ≤ x7_1) = true := decide_eq_true c15
          clear c15
          have c16b0 := eq_true (of_decide_eq_true z1 : x7_1 ≤ (a0.size : Int))
          by_cases c17 : x5_1.length < 8796093022208
          ·rw [if_pos c17] at H
           have LMc17 := Aside0.mk c17
           clear c17
           obtain ⟨y206, hy206⟩ : ∃ y_ : List ByteArray, y_ = (x5_1 ++ [a0.extract (x6_1 : Int).toNat (x7_1 : Int).toNat]) := ⟨_, rfl⟩
           replace H : (spec_l7split.l0 k1 a0 a1 y206 (wrap64 (x7_1 + 1)) (wrap64 (x7_1 + 1))) = some r := by first | (rw [hy206]; with_reducible exact H) | (have H2_ := (Option.bind_some _ _).symm.trans H; rw [hy206]; with_reducible exact H2_) | (have H2_ := (Option.bind_some _ _).symm.trans H; with_reducible exact H2_) | with_reducible exact H | (rw [hy206]; exact H) | exact H
           have Ny206 := Aside0.mk hy206
           clear hy206
           have H' := Aside0.mk H
           clear H
           have p12 : 0 ≤ (x7_1 : Int) := of_decide_eq_true z1
           have q12 : x7_1 < (a0.size : Int) := of_decide_eq_true z1
           have hx12 := bt_at a0 x7_1
           replace p12 := eq_true p12
           replace q12 := eq_true q12
           go_wp2_with (first | ((with_reducible refine gate_builtin (b := .append) (xs := #[.tmp 25, .tmp 30]) rfl ?_); at_builtin; refine Kd.R_append Kd.string (w0 := w) w.heap.size rfl (.tmp 25) (.tmp 30) 55 9 (.string ⟨#[]⟩) 16 rfl Tryz.underlying55 info9 rfl (by decide) (by omega) u5 x5_1 (a0.extract (x6_1 : Int).toNat (x7_1 : Int).toNat) [.string (a0.extract (x6_1 : Int).toNat (x7_1 : Int).toNat)] (fun _ => True) (fun _ => False) rfl rfl ?aP (fun _ hk => hk.elim) ?aF ?aO ?aB ?aS ?aL ?_; (case aP => exact rfl); (case aB => exact z0); (case aF => exact (fun _ _ => trivial)); (case aO => exact z31); (case aS => exact (below_size z0)); (case aL => have := LMc17.out; omega); intro v207 w18 ho hb hg hat; rw [← Ny206.out] at ho; replace HB := Aside0.mk (hb); have HO208 := Aside0.mk (ho); clear HO_5; clear ho hb hg hat))
           go_roundg k1
           case measure => have := HK1.out; omega
           case rel => exact ⟨(y206), (wrap64 (x7_1 + 1)), (wrap64 (x7_1 + 1)), z2, z2, H', ⟨z46⟩, ⟨by (with_reducible repeat (first | apply Kd.R_alloc | apply Kd.R_drewN | apply Kd.R_drew)); exact HO208.out⟩, ⟨z0⟩⟩
          ·rw [if_neg c17] at H
           exact absurd H (by simp)
         ·rw [if_neg c15] at H
          exact absurd H (by simp)
        ·rw [if_neg c14] at H
         exact absurd H (by simp)
       ·rw [if_neg c13] at H
        have c13b0 : ((bt a0 x7_1) == a1) = false := beq_eq_false_iff_ne.mpr c13
        have c13b1 : ((bt a0 x7_1) != a1) = true := bne_iff_ne.mpr c13
        have H' := Aside0.mk H
        clear H
        have p12 : 0 ≤ (x7_1 : Int) := of_decide_eq_true z1
        have q12 : x7_1 < (a0.size : Int) := of_decide_eq_true z1
        have hx12 := bt_at a0 x7_1
        replace p12 := eq_true p12
        replace q12 := eq_true q12
        go_wp2
        go_roundg k1
        case measure => have := HK1.out; omega
        case rel => exact ⟨(x5_1), (x6_1), (wrap64 (x7_1 + 1)), z2, z2, H', ⟨z46⟩, ⟨z31⟩, ⟨z0⟩⟩
      ·rw [if_neg c11] at H
       exact absurd H (by simp)
     ·rw [if_neg c10] at H
      exact absurd H (by simp)
   ·rw [if_neg c3] at H
    have c3b0 : decide (x7_1 ≤ (a0.size : Int)) = false := decide_eq_false c3
    clear c3
    obtain rfl := Option.some.inj H
    go_wp2
    go_ret
    exact ⟨_, z4, z31, z0⟩

end Go.Proofs.YtcplgnikihjilaaGreatDoor.GFnCleans
