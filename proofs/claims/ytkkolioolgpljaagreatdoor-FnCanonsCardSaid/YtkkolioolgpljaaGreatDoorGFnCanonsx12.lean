-- Laid by gen.py of this session (over the kit's printing program): what the law FnCanons reaches, as Lean functions, and that Go comes to just that.
import Derived.Test.YtkkolioolgpljaaGreatDoorGFnCanonsx0
import Derived.Test.YtkkolioolgpljaaGreatDoorGFnCanonsx11
import Derived.Test.YtkkolioolgpljaaGreatDoorZFnCanons
namespace Go.Proofs.YtkkolioolgpljaaGreatDoor.GFnCanons
open Go.RowKit Go.Proofs.YtkkolioolgpljaaGreatDoorW.PrintWords Go.Proofs.YtkkolioolgpljaaGreatDoorW.PrintLast Go.Proofs.YtkkolioolgpljaaGreatDoorW.PrintMore Go.Proofs.YtkkolioolgpljaaGreatDoorW.Zs
attribute [local go_sem] max2_int min2_int max_two min_two max_three min_three max_four min_four   -- for this text's walks alone
set_option linter.unusedVariables false
set_option linter.unusedSimpArgs false

/-! ### spec_l7url: function 42 -/
def spec_l7url.f (k : Nat) (s0_0 : List Int) (s0_1 : Int) (s0_2 : Int) : Option (ByteArray × Int × Int) := (some (([(⟨#[104, 116, 116, 112, 58, 47, 47]⟩ : ByteArray), (⟨#[72, 84, 84, 80, 58, 47, 47]⟩ : ByteArray), (⟨#[72, 116, 116, 112, 58, 47, 47]⟩ : ByteArray)] : List ByteArray) : List ByteArray)).bind fun y273 => ((spec_l1Below.f s0_0 s0_1 s0_2 3).bind fun bt276 => (if 0 ≤ bt276.1 then (if bt276.1 < (y273.length : Int) then ((some (([(⟨#[97, 46, 101, 120, 97, 109, 112, 108, 101]⟩ : ByteArray), (⟨#[119, 119, 119, 46, 66, 46, 101, 120, 97, 109, 112, 108, 101]⟩ : ByteArray), (⟨#[99]⟩ : ByteArray), (⟨#[120, 45, 49, 46, 121]⟩ : ByteArray)] : List ByteArray) : List ByteArray)).bind fun y280 => ((spec_l1Below.f s0_0 bt276.2.1 bt276.2.2 4).bind fun bt283 => (if 0 ≤ bt283.1 then (if bt283.1 < (y280.length : Int) then (if (rdOf ByteArray.empty y273 bt276.1).size + (rdOf ByteArray.empty y280 bt283.1).size ≤ 9223372036854775807 then ((some (([(⟨#[]⟩ : ByteArray), (⟨#[]⟩ : ByteArray), (⟨#[58, 56, 48]⟩ : ByteArray), (⟨#[58, 56, 48, 56, 48]⟩ : ByteArray), (⟨#[58, 54, 53, 53, 51, 53]⟩ : ByteArray)] : List ByteArray) : List ByteArray)).bind fun y287 => ((spec_l1Below.f s0_0 bt283.2.1 bt283.2.2 5).bind fun bt290 => (if 0 ≤ bt290.1 then (if bt290.1 < (y287.length : Int) then (if ((rdOf ByteArray.empty y273 bt276.1) ++ (rdOf ByteArray.empty y280 bt283.1)).size + (rdOf ByteArray.empty y287 bt290.1).size ≤ 9223372036854775807 then ((spec_l7path.f k s0_0 bt290.2.1 bt290.2.2).bind fun bt294 => (if (((rdOf ByteArray.empty y273 bt276.1) ++ (rdOf ByteArray.empty y280 bt283.1)) ++ (rdOf ByteArray.empty y287 bt290.1)).size + bt294.1.size ≤ 9223372036854775807 then ((spec_l1Once.f s0_0 bt294.2.1 bt294.2.2 3).bind fun bt297 => (if bt297.1 = true then (if ((((rdOf ByteArray.empty y273 bt276.1) ++ (rdOf ByteArray.empty y280 bt283.1)) ++ (rdOf ByteArray.empty y287 bt290.1)) ++ bt294.1).size + 1 ≤ 9223372036854775807 then ((spec_l1Below.f s0_0 bt297.2.1 bt297.2.2 5).bind fun bt300 => ((spec_l1of.f k s0_0 bt300.2.1 bt300.2.2 bt300.1 (⟨#[97, 63, 47, 61, 37, 46]⟩ : ByteArray)).bind fun bt303 => (if (((((rdOf ByteArray.empty y273 bt276.1) ++ (rdOf ByteArray.empty y280 bt283.1)) ++ (rdOf ByteArray.empty y287 bt290.1)) ++ bt294.1) ++ (⟨#[63]⟩ : ByteArray)).size + bt303.1.size ≤ 9223372036854775807 then (some ((((((rdOf ByteArray.empty y273 bt276.1) ++ (rdOf ByteArray.empty y280 bt283.1)) ++ (rdOf ByteArray.empty y287 bt290.1)) ++ bt294.1) ++ (⟨#[63]⟩ : ByteArray)) ++ bt303.1, bt303.2.1, bt303.2.2)) else (none)))) else (none)) else (some ((((rdOf ByteArray.empty y273 bt276.1) ++ (rdOf ByteArray.empty y280 bt283.1)) ++ (rdOf ByteArray.empty y287 bt290.1)) ++ bt294.1, bt297.2.1, bt297.2.2)))) else (none))) else (none)) else (none)) else (none)))) else (none)) else (none)) else (none)))) else (none)) else (none)))
theorem spec_l7url.mono : ∀ a0 a1 a2 k, LeO (spec_l7url.f k a0 a1 a2) (spec_l7url.f (k + 1) a0 a1 a2) := by
 intro a0 a1 a2 k
 unfold spec_l7url.f
 repeat' first | (with_reducible first | exact spec_l1of.mono _ _ _ _ _ _ | exact spec_l7path.mono _ _ _ _ | exact LeO.refl _ | exact LeO.none _ | refine LeO.ite ?_ ?_ | refine LeO.bind ?_ (fun _ => ?_)) | exact spec_l1of.mono _ _ _ _ _ _ | exact spec_l7path.mono _ _ _ _ | exact LeO.none _ | refine LeO.ite ?_ ?_ | refine LeO.bind ?_ (fun _ => ?_)
def spec_l7url.T3 : Bool × List (List Nat × List Nat) := (true, [([], []), ([], []), ([], []), ([2], [2]), ([1, 3], [1, 3]), ([4], [4]), ([0, 5], [0, 5]), ([], []), ([7, 3], [7]), ([6, 8], [6, 8]), ([9, 8, 0, 1, 2, 3, 4, 5, 6, 7, 8, 9], [0, 9])])
def spec_l7url.B3 : List Nat := [0, 0, 0, 4, 14, 30, 63, 0, 140, 511, 1023]
theorem spec_l7url.tab3 : rtab .any (opsOf Tryz.f42 3) = spec_l7url.T3 := by kernel_rfl
theorem spec_l7url.bits3 : waitsOk spec_l7url.T3.2 spec_l7url.B3 = true := by kernel_rfl
set_option maxHeartbeats 8000000 in
set_option maxRecDepth 100000 in
theorem spec_l7url.calls (k : Nat) (g : Nat) (s0_0 : List Int) (s0_1 : Int) (s0_2 : Int) (r1 : ByteArray) (r2 : Int) (r3 : Int) (w0 w : World) (hI : IsS62 w0 w g s0_0 s0_1 s0_2) (hB : Below w0.heap.size w0 w) (h : spec_l7url.f k s0_0 s0_1 s0_2 = some (r1, r2, r3)) :
  Calls Tryz.prog 42 #[.pointer (some ⟨g, 0, none⟩)] w fun e w' => e = .returned (.string r1) ∧ IsS62 w0 w' g s0_0 r2 r3 ∧ Below w0.heap.size w0 w' ∧ KeepBut w w' g none := by
 have HI0 := Aside0.mk hI
 have HK := Aside0.mk (KeepBut.refl w g none)
 have HL := Aside0.mk hB.size
 clear hI
 have HW0 := Aside0.mk hB.size
 have HB := Aside0.mk hB
 clear hB
 have H : ((some (([(⟨#[104, 116, 116, 112, 58, 47, 47]⟩ : ByteArray), (⟨#[72, 84, 84, 80, 58, 47, 47]⟩ : ByteArray), (⟨#[72, 116, 116, 112, 58, 47, 47]⟩ : ByteArray)] : List ByteArray) : List ByteArray)).bind fun y273 => ((spec_l1Below.f s0_0 s0_1 s0_2 3).bind fun bt276 => (if 0 ≤ bt276.1 then (if bt276.1 < (y273.length : Int) then ((some (([(⟨#[97, 46, 101, 120, 97, 109, 112, 108, 101]⟩ : ByteArray), (⟨#[119, 119, 119, 46, 66, 46, 101, 120, 97, 109, 112, 108, 101]⟩ : ByteArray), (⟨#[99]⟩ : ByteArray), (⟨#[120, 45, 49, 46, 121]⟩ : ByteArray)] : List ByteArray) : List ByteArray)).bind fun y280 => ((spec_l1Below.f s0_0 bt276.2.1 bt276.2.2 4).bind fun bt283 => (if 0 ≤ bt283.1 then (if bt283.1 < (y280.length : Int) then (if (rdOf ByteArray.empty y273 bt276.1).size + (rdOf ByteArray.empty y280 bt283.1).size ≤ 9223372036854775807 then ((some (([(⟨#[]⟩ : ByteArray), (⟨#[]⟩ : ByteArray), (⟨#[58, 56, 48]⟩ : ByteArray), (⟨#[58, 56, 48, 56, 48]⟩ : ByteArray), (⟨#[58, 54, 53, 53, 51, 53]⟩ : ByteArray)] : List ByteArray) : List ByteArray)).bind fun y287 => ((spec_l1Below.f s0_0 bt283.2.1 bt283.2.2 5).bind fun bt290 => (if 0 ≤ bt290.1 then (if bt290.1 < (y287.length : Int) then (if ((rdOf ByteArray.empty y273 bt276.1) ++ (rdOf ByteArray.empty y280 bt283.1)).size + (rdOf ByteArray.empty y287 bt290.1).size ≤ 9223372036854775807 then ((spec_l7path.f k s0_0 bt290.2.1 bt290.2.2).bind fun bt294 => (if (((rdOf ByteArray.empty y273 bt276.1) ++ (rdOf ByteArray.empty y280 bt283.1)) ++ (rdOf ByteArray.empty y287 bt290.1)).size + bt294.1.size ≤ 9223372036854775807 then ((spec_l1Once.f s0_0 bt294.2.1 bt294.2.2 3).bind fun bt297 => (if bt297.1 = true then (if ((((rdOf ByteArray.empty y273 bt276.1) ++ (rdOf ByteArray.empty y280 bt283.1)) ++ (rdOf ByteArray.empty y287 bt290.1)) ++ bt294.1).size + 1 ≤ 9223372036854775807 then ((spec_l1Below.f s0_0 bt297.2.1 bt297.2.2 5).bind fun bt300 => ((spec_l1of.f k s0_0 bt300.2.1 bt300.2.2 bt300.1 (⟨#[97, 63, 47, 61, 37, 46]⟩ : ByteArray)).bind fun bt303 => (if (((((rdOf ByteArray.empty y273 bt276.1) ++ (rdOf ByteArray.empty y280 bt283.1)) ++ (rdOf ByteArray.empty y287 bt290.1)) ++ bt294.1) ++ (⟨#[63]⟩ : ByteArray)).size + bt303.1.size ≤ 9223372036854775807 then (some ((((((rdOf ByteArray.empty y273 bt276.1) ++ (rdOf ByteArray.empty y280 bt283.1)) ++ (rdOf ByteArray.empty y287 bt290.1)) ++ bt294.1) ++ (⟨#[63]⟩ : ByteArray)) ++ bt303.1, bt303.2.1, bt303.2.2)) else (none)))) else (none)) else (some ((((rdOf ByteArray.empty y273 bt276.1) ++ (rdOf ByteArray.empty y280 bt283.1)) ++ (rdOf ByteArray.empty y287 bt290.1)) ++ bt294.1, bt297.2.1, bt297.2.2)))) else (none))) else (none)) else (none)) else (none)))) else (none)) else (none)) else (none)))) else (none)) else (none)))) = some (r1, r2, r3) := h
 clear h
 obtain ⟨y273, hy273⟩ : ∃ y_ : List ByteArray, y_ = (([(⟨#[104, 116, 116, 112, 58, 47, 47]⟩ : ByteArray), (⟨#[72, 84, 84, 80, 58, 47, 47]⟩ : ByteArray), (⟨#[72, 116, 116, 112, 58, 47, 47]⟩ : ByteArray)] : List ByteArray)) := ⟨_, rfl⟩
 replace H : ((spec_l1Below.f s0_0 s0_1 s0_2 3).bind fun bt276 => (if 0 ≤ bt276.1 then (if bt276.1 < (y273.length : Int) then ((some (([(⟨#[97, 46, 101, 120, 97, 109, 112, 108, 101]⟩ : ByteArray), (⟨#[119, 119, 119, 46, 66, 46, 101, 120, 97, 109, 112, 108, 101]⟩ : ByteArray), (⟨#[99]⟩ : ByteArray), (⟨#[120, 45, 49, 46, 121]⟩ : ByteArray)] : List ByteArray) : List ByteArray)).bind fun y280 => ((spec_l1Below.f s0_0 bt276.2.1 bt276.2.2 4).bind fun bt283 => (if 0 ≤ bt283.1 then (if bt283.1 < (y280.length : Int) then (if (rdOf ByteArray.empty y273 bt276.1).size + (rdOf ByteArray.empty y280 bt283.1).size ≤ 9223372036854775807 then ((some (([(⟨#[]⟩ : ByteArray), (⟨#[]⟩ : ByteArray), (⟨#[58, 56, 48]⟩ : ByteArray), (⟨#[58, 56, 48, 56, 48]⟩ : ByteArray), (⟨#[58, 54, 53, 53, 51, 53]⟩ : ByteArray)] : List ByteArray) : List ByteArray)).bind fun y287 => ((spec_l1Below.f s0_0 bt283.2.1 bt283.2.2 5).bind fun bt290 => (if 0 ≤ bt290.1 then (if bt290.1 < (y287.length : Int) then (if ((rdOf ByteArray.empty y273 bt276.1) ++ (rdOf ByteArray.empty y280 bt283.1)).size + (rdOf ByteArray.empty y287 bt290.1).size ≤ 9223372036854775807 then ((spec_l7path.f k s0_0 bt290.2.1 bt290.2.2).bind fun bt294 => (if (((rdOf ByteArray.empty y273 bt276.1) ++ (rdOf ByteArray.empty y280 bt283.1)) ++ (rdOf ByteArray.empty y287 bt290.1)).size + bt294.1.size ≤ 9223372036854775807 then ((spec_l1Once.f s0_0 bt294.2.1 bt294.2.2 3).bind fun bt297 => (if bt297.1 = true then (if ((((rdOf ByteArray.empty y273 bt276.1) ++ (rdOf ByteArray.empty y280 bt283.1)) ++ (rdOf ByteArray.empty y287 bt290.1)) ++ bt294.1).size + 1 ≤ 9223372036854775807 then ((spec_l1Below.f s0_0 bt297.2.1 bt297.2.2 5).bind fun bt300 => ((spec_l1of.f k s0_0 bt300.2.1 bt300.2.2 bt300.1 (⟨#[97, 63, 47, 61, 37, 46]⟩ : ByteArray)).bind fun bt303 => (if (((((rdOf ByteArray.empty y273 bt276.1) ++ (rdOf ByteArray.empty y280 bt283.1)) ++ (rdOf ByteArray.empty y287 bt290.1)) ++ bt294.1) ++ (⟨#[63]⟩ : ByteArray)).size + bt303.1.size ≤ 9223372036854775807 then (some ((((((rdOf ByteArray.empty y273 bt276.1) ++ (rdOf ByteArray.empty y280 bt283.1)) ++ (rdOf ByteArray.empty y287 bt290.1)) ++ bt294.1) ++ (⟨#[63]⟩ : ByteArray)) ++ bt303.1, bt303.2.1, bt303.2.2)) else (none)))) else (none)) else (some ((((rdOf ByteArray.empty y273 bt276.1) ++ (rdOf ByteArray.empty y280 bt283.1)) ++ (rdOf ByteArray.empty y287 bt290.1)) ++ bt294.1, bt297.2.1, bt297.2.2)))) else (none))) else (none)) else (none)) else (none)))) else (none)) else (none)) else (none)))) else (none)) else (none))) = some (r1, r2, r3) := by first | (rw [hy273]; with_reducible exact H) | (have H2_ := (Option.bind_some _ _).symm.trans H; rw [hy273]; with_reducible exact H2_) | (have H2_ := (Option.bind_some _ _).symm.trans H; with_reducible exact H2_) | with_reducible exact H | (rw [hy273]; exact H) | exact H
 have Ny273 := Aside0.mk hy273
 clear hy273
 replace H := Option.bind_eq_some_iff.mp H
 obtain ⟨⟨t276, t277, t278⟩, A20, H⟩ := H
 try dsimp only at H
 have A2 := Aside0.mk A20
 clear A20
 by_cases c3 : 0 ≤ t276
 ·rw [if_pos c3] at H
  have c3b0 : decide (0 ≤ t276) = true := decide_eq_true c3
  clear c3
  by_cases c4 : t276 < (y273.length : Int)
  ·rw [if_pos c4] at H
   have c4b0 : decide (t276 < (y273.length : Int)) = true := decide_eq_true c4
   clear c4
   obtain ⟨y280, hy280⟩ : ∃ y_ : List ByteArray, y_ = (([(⟨#[97, 46, 101, 120, 97, 109, 112, 108, 101]⟩ : ByteArray), (⟨#[119, 119, 119, 46, 66, 46, 101, 120, 97, 109, 112, 108, 101]⟩ : ByteArray), (⟨#[99]⟩ : ByteArray), (⟨#[120, 45, 49, 46, 121]⟩ : ByteArray)] : List ByteArray)) := ⟨_, rfl⟩
   replace H : ((spec_l1Below.f s0_0 t277 t278 4).bind fun bt283 => (if 0 ≤ bt283.1 then (if bt283.1 < (y280.length : Int) then (if (rdOf ByteArray.empty y273 t276).size + (rdOf ByteArray.empty y280 bt283.1).size ≤ 9223372036854775807 then ((some (([(⟨#[]⟩ : ByteArray), (⟨#[]⟩ : ByteArray), (⟨#[58, 56, 48]⟩ : ByteArray), (⟨#[58, 56, 48, 56, 48]⟩ : ByteArray), (⟨#[58, 54, 53, 53, 51, 53]⟩ : ByteArray)] : List ByteArray) : List ByteArray)).bind fun y287 => ((spec_l1Below.f s0_0 bt283.2.1 bt283.2.2 5).bind fun bt290 => (if 0 ≤ bt290.1 then (if bt290.1 < (y287.length : Int) then (if ((rdOf ByteArray.empty y273 t276) ++ (rdOf ByteArray.empty y280 bt283.1)).size + (rdOf ByteArray.empty y287 bt290.1).size ≤ 9223372036854775807 then ((spec_l7path.f k s0_0 bt290.2.1 bt290.2.2).bind fun bt294 => (if (((rdOf ByteArray.empty y273 t276) ++ (rdOf ByteArray.empty y280 bt283.1)) ++ (rdOf ByteArray.empty y287 bt290.1)).size + bt294.1.size ≤ 9223372036854775807 then ((spec_l1Once.f s0_0 bt294.2.1 bt294.2.2 3).bind fun bt297 => (if bt297.1 = true then (if ((((rdOf ByteArray.empty y273 t276) ++ (rdOf ByteArray.empty y280 bt283.1)) ++ (rdOf ByteArray.empty y287 bt290.1)) ++ bt294.1).size + 1 ≤ 9223372036854775807 then ((spec_l1Below.f s0_0 bt297.2.1 bt297.2.2 5).bind fun bt300 => ((spec_l1of.f k s0_0 bt300.2.1 bt300.2.2 bt300.1 (⟨#[97, 63, 47, 61, 37, 46]⟩ : ByteArray)).bind fun bt303 => (if (((((rdOf ByteArray.empty y273 t276) ++ (rdOf ByteArray.empty y280 bt283.1)) ++ (rdOf ByteArray.empty y287 bt290.1)) ++ bt294.1) ++ (⟨#[63]⟩ : ByteArray)).size + bt303.1.size ≤ 9223372036854775807 then (some ((((((rdOf ByteArray.empty y273 t276) ++ (rdOf ByteArray.empty y280 bt283.1)) ++ (rdOf ByteArray.empty y287 bt290.1)) ++ bt294.1) ++ (⟨#[63]⟩ : ByteArray)) ++ bt303.1, bt303.2.1, bt303.2.2)) else (none)))) else (none)) else (some ((((rdOf ByteArray.empty y273 t276) ++ (rdOf ByteArray.empty y280 bt283.1)) ++ (rdOf ByteArray.empty y287 bt290.1)) ++ bt294.1, bt297.2.1, bt297.2.2)))) else (none))) else (none)) else (none)) else (none)))) else (none)) else (none)) else (none))) = some (r1, r2, r3) := by first | (rw [hy280]; with_reducible exact H) | (have H2_ := (Option.bind_some _ _).symm.trans H; rw [hy280]; with_reducible exact H2_) | (have H2_ := (Option.bind_some _ _).symm.trans H; with_reducible exact H2_) | with_reducible exact H | (rw [hy280]; exact H) | exact H
   have Ny280 := Aside0.mk hy280
   clear hy280
   replace H := Option.bind_eq_some_iff.mp H
   obtain ⟨⟨t283, t284, t285⟩, A50, H⟩ := H
   try dsimp only at H
   have A5 := Aside0.mk A50
   clear A50
   by_cases c6 : 0 ≤ t283
   ·rw [if_pos c6] at H
    have c6b0 : decide (0 ≤ t283) = true := decide_eq_true c6
    clear c6
    by_cases c7 : t283 < (y280.length : Int)
    ·rw [if_pos c7] at H
     have c7b0 : decide (t283 < (y280.length : Int)) = true := decide_eq_true c7
     clear c7
     by_cases c8 : (rdOf ByteArray.empty y273 t276).size + (rdOf ByteArray.empty y280 t283).size ≤ 9223372036854775807
     ·rw [if_pos c8] at H
      have c8b0 := eq_true c8
      have c8b1 : decide ((rdOf ByteArray.empty y273 t276).size + (rdOf ByteArray.empty y280 t283).size ≤ 9223372036854775807) = true := decide_eq_true c8
      try have c8b2 : (9223372036854775807 < (rdOf ByteArray.empty y273 t276).size + (rdOf ByteArray.empty y280 t283).size) = False := eq_false (Nat.not_lt.2 c8)
      obtain ⟨y287, hy287⟩ : ∃ y_ : List ByteArray, y_ = (([(⟨#[]⟩ : ByteArray), (⟨#[]⟩ : ByteArray), (⟨#[58, 56, 48]⟩ : ByteArray), (⟨#[58, 56, 48, 56, 48]⟩ : ByteArray), (⟨#[58, 54, 53, 53, 51, 53]⟩ : ByteArray)] : List ByteArray)) := ⟨_, rfl⟩
      replace H : ((spec_l1Below.f s0_0 t284 t285 5).bind fun bt290 => (if 0 ≤ bt290.1 then (if bt290.1 < (y287.length : Int) then (if ((rdOf ByteArray.empty y273 t276) ++ (rdOf ByteArray.empty y280 t283)).size + (rdOf ByteArray.empty y287 bt290.1).size ≤ 9223372036854775807 then ((spec_l7path.f k s0_0 bt290.2.1 bt290.2.2).bind fun bt294 => (if (((rdOf ByteArray.empty y273 t276) ++ (rdOf ByteArray.empty y280 t283)) ++ (rdOf ByteArray.empty y287 bt290.1)).size + bt294.1.size ≤ 9223372036854775807 then ((spec_l1Once.f s0_0 bt294.2.1 bt294.2.2 3).bind fun bt297 => (if bt297.1 = true then (if ((((rdOf ByteArray.empty y273 t276) ++ (rdOf ByteArray.empty y280 t283)) ++ (rdOf ByteArray.empty y287 bt290.1)) ++ bt294.1).size + 1 ≤ 9223372036854775807 then ((spec_l1Below.f s0_0 bt297.2.1 bt297.2.2 5).bind fun bt300 => ((spec_l1of.f k s0_0 bt300.2.1 bt300.2.2 bt300.1 (⟨#[97, 63, 47, 61, 37, 46]⟩ : ByteArray)).bind fun bt303 => (if (((((rdOf ByteArray.empty y273 t276) ++ (rdOf ByteArray.empty y280 t283)) ++ (rdOf ByteArray.empty y287 bt290.1)) ++ bt294.1) ++ (⟨#[63]⟩ : ByteArray)).size + bt303.1.size ≤ 9223372036854775807 then (some ((((((rdOf ByteArray.empty y273 t276) ++ (rdOf ByteArray.empty y280 t283)) ++ (rdOf ByteArray.empty y287 bt290.1)) ++ bt294.1) ++ (⟨#[63]⟩ : ByteArray)) ++ bt303.1, bt303.2.1, bt303.2.2)) else (none)))) else (none)) else (some ((((rdOf ByteArray.empty y273 t276) ++ (rdOf ByteArray.empty y280 t283)) ++ (rdOf ByteArray.empty y287 bt290.1)) ++ bt294.1, bt297.2.1, bt297.2.2)))) else (none))) else (none)) else (none)) else (none))) = some (r1, r2, r3) := by first | (rw [hy287]; with_reducible exact H) | (have H2_ := (Option.bind_some _ _).symm.trans H; rw [hy287]; with_reducible exact H2_) | (have H2_ := (Option.bind_some _ _).symm.trans H; with_reducible exact H2_) | with_reducible exact H | (rw [hy287]; exact H) | exact H
      have Ny287 := Aside0.mk hy287
      clear hy287
      replace H := Option.bind_eq_some_iff.mp H
      obtain ⟨⟨t290, t291, t292⟩, A90, H⟩ := H
      try dsimp only at H
      have A9 := Aside0.mk A90
      clear A90
      by_cases c10 : 0 ≤ t290
      ·rw [if_pos c10] at H
       have c10b0 : decide (0 ≤ t290) = true := decide_eq_true c10
       clear c10
       by_cases c11 : t290 < (y287.length : Int)
       ·rw [if_pos c11] at H
        have c11b0 : decide (t290 < (y287.length : Int)) = true := decide_eq_true c11
        clear c11
        by_cases c12 : ((rdOf ByteArray.empty y273 t276) ++ (rdOf ByteArray.empty y280 t283)).size + (rdOf ByteArray.empty y287 t290).size ≤ 9223372036854775807
        ·rw [if_pos c12] at H
         have c12b0 := eq_true c12
         have c12b1 : decide (((rdOf ByteArray.empty y273 t276) ++ (rdOf ByteArray.empty y280 t283)).size + (rdOf ByteArray.empty y287 t290).size ≤ 9223372036854775807) = true := decide_eq_true c12
         try have c12b2 : (9223372036854775807 < ((rdOf ByteArray.empty y273 t276) ++ (rdOf ByteArray.empty y280 t283)).size + (rdOf ByteArray.empty y287 t290).size) = False := eq_false (Nat.not_lt.2 c12)
         try have c12z := c12b2; simp only [ByteArray.size_append] at c12z; have c12b3 := c12z
         replace H := Option.bind_eq_some_iff.mp H
         obtain ⟨⟨t294, t295, t296⟩, A130, H⟩ := H
         try dsimp only at H
         have A13 := Aside0.mk A130
         clear A130
         by_cases c14 : (((rdOf ByteArray.empty y273 t276) ++ (rdOf ByteArray.empty y280 t283)) ++ (rdOf ByteArray.empty y287 t290)).size + t294.size ≤ 9223372036854775807
         ·rw [if_pos c14] at H
          have c14b0 := eq_true c14
          have c14b1 : decide ((((rdOf ByteArray.empty y273 t276) ++ (rdOf ByteArray.empty y280 t283)) ++ (rdOf ByteArray.empty y287 t290)).size + t294.size ≤ 9223372036854775807) = true := decide_eq_true c14
          try have c14b2 : (9223372036854775807 < (((rdOf ByteArray.empty y273 t276) ++ (rdOf ByteArray.empty y280 t283)) ++ (rdOf ByteArray.empty y287 t290)).size + t294.size) = False := eq_false (Nat.not_lt.2 c14)
          try have c14z := c14b2; simp only [ByteArray.size_append] at c14z; have c14b3 := c14z
          replace H := Option.bind_eq_some_iff.mp H
          obtain ⟨⟨t297, t298, t299⟩, A150, H⟩ := H
          try dsimp only at H
          have A15 := Aside0.mk A150
          clear A150
          by_cases c16 : t297 = true
          ·subst c16
           rw [if_pos rfl] at H
           by_cases c17 : ((((rdOf ByteArray.empty y273 t276) ++ (rdOf ByteArray.empty y280 t283)) ++ (rdOf ByteArray.empty y287 t290)) ++ t294).size + 1 ≤ 9223372036854775807
           ·rw [if_pos c17] at H
            have c17b0 := eq_true c17
            have c17b1 : decide (((((rdOf ByteArray.empty y273 t276) ++ (rdOf ByteArray.empty y280 t283)) ++ (rdOf ByteArray.empty y287 t290)) ++ t294).size + 1 ≤ 9223372036854775807) = true := decide_eq_true c17
            try have c17b2 : (9223372036854775807 < ((((rdOf ByteArray.empty y273 t276) ++ (rdOf ByteArray.empty y280 t283)) ++ (rdOf ByteArray.empty y287 t290)) ++ t294).size + 1) = False := eq_false (Nat.not_lt.2 c17)
            try have c17z := c17b2; simp only [ByteArray.size_append] at c17z; have c17b3 := c17z
            replace H := Option.bind_eq_some_iff.mp H
            obtain ⟨⟨t300, t301, t302⟩, A180, H⟩ := H
            try dsimp only at H
            have A18 := Aside0.mk A180
            clear A180
            replace H := Option.bind_eq_some_iff.mp H
            obtain ⟨⟨t303, t304, t305⟩, A190, H⟩ := H
            try dsimp only at H
            have A19 := Aside0.mk A190
            clear A190
            by_cases c20 : (((((rdOf ByteArray.empty y273 t276) ++ (rdOf ByteArray.empty y280 t283)) ++ (rdOf ByteArray.empty y287 t290)) ++ t294) ++ (⟨#[63]⟩ : ByteArray)).size + t303.size ≤ 9223372036854775807
            ·rw [if_pos c20] at H
             have c20b0 := eq_true c20
             have c20b1 : decide ((((((rdOf ByteArray.empty y273 t276) ++ (rdOf ByteArray.empty y280 t283)) ++ (rdOf ByteArray.empty y287 t290)) ++ t294) ++ (⟨#[63]⟩ : ByteArray)).size + t303.size ≤ 9223372036854775807) = true := decide_eq_true c20
             try have c20b2 : (9223372036854775807 < (((((rdOf ByteArray.empty y273 t276) ++ (rdOf ByteArray.empty y280 t283)) ++ (rdOf ByteArray.empty y287 t290)) ++ t294) ++ (⟨#[63]⟩ : ByteArray)).size + t303.size) = False := eq_false (Nat.not_lt.2 c20)
             try have c20z := c20b2; simp only [ByteArray.size_append, show (⟨#[63]⟩ : ByteArray).size = 1 from rfl] at c20z; have c20b3 := c20z
             simp only [Option.some.injEq, Prod.mk.injEq] at H
             obtain ⟨rfl, rfl, rfl⟩ := H
             go_enter Tryz.func42, Tryz.ntmps42
             try go_wp2_with (first | ((with_reducible refine gate_dst (N := 4) rfl ?_); refine Kd.R_lit Kd.string _ 9 ?hg (N := 4) ?hd (xs := ([(⟨#[104, 116, 116, 112, 58, 47, 47]⟩ : ByteArray), (⟨#[72, 84, 84, 80, 58, 47, 47]⟩ : ByteArray), (⟨#[72, 116, 116, 112, 58, 47, 47]⟩ : ByteArray)] : List ByteArray)) (inner := [.string (⟨#[104, 116, 116, 112, 58, 47, 47]⟩ : ByteArray), .string (⟨#[72, 84, 84, 80, 58, 47, 47]⟩ : ByteArray), .string (⟨#[72, 116, 116, 112, 58, 47, 47]⟩ : ByteArray)]) (ok := fun _ => True) (okp := fun _ => True) ?hr ?hp (fun _ hk => hk) trivial (Below.refl _ _) (Nat.le_refl _) (by simp) ?_; (case hd => rfl); (case hg => rfl); (case hr => first | (go_simp; done) | (go_simp; rfl)); (case hp => exact (Reps.one (show Kd.M Kd.string _ _ _ (⟨#[104, 116, 116, 112, 58, 47, 47]⟩ : ByteArray) [.string (⟨#[104, 116, 116, 112, 58, 47, 47]⟩ : ByteArray)] from rfl) (Reps.one (show Kd.M Kd.string _ _ _ (⟨#[72, 84, 84, 80, 58, 47, 47]⟩ : ByteArray) [.string (⟨#[72, 84, 84, 80, 58, 47, 47]⟩ : ByteArray)] from rfl) (Reps.one (show Kd.M Kd.string _ _ _ (⟨#[72, 116, 116, 112, 58, 47, 47]⟩ : ByteArray) [.string (⟨#[72, 116, 116, 112, 58, 47, 47]⟩ : ByteArray)] from rfl) (Reps.none _ _))))); intro v274 w21 ho22 hb hg_ hnew_; clear hg_ hnew_; (first | rw [← Ny273.out] at ho22 | (simp only [Int.reduceToNat] at ho22; rw [← Ny273.out] at ho22)); have HO275 := Aside0.mk (Kd.R_lower ho22 (keep_size (w := w) (g := g) (row := none) z1)); replace HK := Aside0.mk (KeepBut.trans z1 (KeepBut.of_below hb g none) (.inl rfl)); replace HB := Aside0.mk (below_step z6 hb); replace HI0 := Aside0.mk (IsS62.below z2 hb); clear hb ho22) | ((with_reducible refine gate_callee (f := 44) rfl ?_); refine goesQ_ 6 Tryz.func44 #[.pointer (some ⟨g, 0, none⟩), .int .i64 3] ?_; (with_reducible refine (spec_l1Below.calls g s0_0 s0_1 s0_2 3 t276 t277 t278 w0 _ ?side1 ?side2 A2.out).mono ?_); (case side1 => repeat (first | (with_reducible first | exact HI0.out | apply IsS62.alloc | apply IsS62.drewN | apply IsS62.drew | apply IsS62.set_1 | apply IsS62.set_2) | exact HI0.out)); (case side2 => repeat (first | (with_reducible first | exact HB.out | apply below_alloc | apply pw_below_drewN | apply below_drew1 | refine below_set ?_ (IsS62.ge HI0.out)) | exact HB.out)); rintro e w23 ⟨rfl, hi, hb, hk⟩; refine ⟨_, rfl, ?_⟩; replace HO275 := Aside0.mk (Kd.R_mono (Kd.R_keep (IsS62.apart (show IsS62 w0 _ g s0_0 s0_1 s0_2 from z2) z20 (by decide)) hk (fun _ h => h.2)) (fun _ h => h.1)); replace HK := Aside0.mk (KeepBut.trans z1 hk (.inl rfl)); replace HB := Aside0.mk (hb); replace HI0 := Aside0.mk (hi); (try clear hb); (try clear hk); (try clear hi); obtain ⟨Ao24, co24, eo24⟩ := Kd.R_slice HO275.out; subst eo24; have p279 : 0 ≤ (t276 : Int) := of_decide_eq_true z3; have q279 : t276 < (y273.length : Int) := of_decide_eq_true z3; obtain ⟨ad279, e279, hx279_0⟩ := Kd.at_string (Kd.R_reads' HO275.out).2.2 t276 p279 q279; cases e279; replace p279 := eq_true p279; replace q279 := eq_true q279) | ((with_reducible refine gate_dst (N := 10) rfl ?_); refine Kd.R_lit Kd.string _ 9 ?hg (N := 10) ?hd (xs := ([(⟨#[97, 46, 101, 120, 97, 109, 112, 108, 101]⟩ : ByteArray), (⟨#[119, 119, 119, 46, 66, 46, 101, 120, 97, 109, 112, 108, 101]⟩ : ByteArray), (⟨#[99]⟩ : ByteArray), (⟨#[120, 45, 49, 46, 121]⟩ : ByteArray)] : List ByteArray)) (inner := [.string (⟨#[97, 46, 101, 120, 97, 109, 112, 108, 101]⟩ : ByteArray), .string (⟨#[119, 119, 119, 46, 66, 46, 101, 120, 97, 109, 112, 108, 101]⟩ : ByteArray), .string (⟨#[99]⟩ : ByteArray), .string (⟨#[120, 45, 49, 46, 121]⟩ : ByteArray)]) (ok := fun _ => True) (okp := fun _ => True) ?hr ?hp (fun _ hk => hk) trivial (Below.refl _ _) (Nat.le_refl _) (by simp) ?_; (case hd => rfl); (case hg => rfl); (case hr => first | (go_simp; done) | (go_simp; rfl)); (case hp => exact (Reps.one (show Kd.M Kd.string _ _ _ (⟨#[97, 46, 101, 120, 97, 109, 112, 108, 101]⟩ : ByteArray) [.string (⟨#[97, 46, 101, 120, 97, 109, 112, 108, 101]⟩ : ByteArray)] from rfl) (Reps.one (show Kd.M Kd.string _ _ _ (⟨#[119, 119, 119, 46, 66, 46, 101, 120, 97, 109, 112, 108, 101]⟩ : ByteArray) [.string (⟨#[119, 119, 119, 46, 66, 46, 101, 120, 97, 109, 112, 108, 101]⟩ : ByteArray)] from rfl) (Reps.one (show Kd.M Kd.string _ _ _ (⟨#[99]⟩ : ByteArray) [.string (⟨#[99]⟩ : ByteArray)] from rfl) (Reps.one (show Kd.M Kd.string _ _ _ (⟨#[120, 45, 49, 46, 121]⟩ : ByteArray) [.string (⟨#[120, 45, 49, 46, 121]⟩ : ByteArray)] from rfl) (Reps.none _ _)))))); intro v281 w25 ho26 hb hg_ hnew_; clear hg_ hnew_; (first | rw [← Ny280.out] at ho26 | (simp only [Int.reduceToNat] at ho26; rw [← Ny280.out] at ho26)); have HO282 := Aside0.mk (Kd.R_lower (Kd.R_new' ho26 (Kd.R_lt z20)) (keep_size (w := w) (g := g) (row := none) z1)); replace HO275 := Aside0.mk (Kd.R_elder' z20 (Kd.R_base ho26) hb); replace HK := Aside0.mk (KeepBut.trans z1 (KeepBut.of_below hb g none) (.inl rfl)); replace HB := Aside0.mk (below_step z6 hb); replace HI0 := Aside0.mk (IsS62.below z2 hb); clear hb ho26) | ((with_reducible refine gate_callee (f := 44) rfl ?_); refine goesQ_ 12 Tryz.func44 #[.pointer (some ⟨g, 0, none⟩), .int .i64 4] ?_; (with_reducible refine (spec_l1Below.calls g s0_0 t277 t278 4 t283 t284 t285 w0 _ ?side1 ?side2 A5.out).mono ?_); (case side1 => repeat (first | (with_reducible first | exact HI0.out | apply IsS62.alloc | apply IsS62.drewN | apply IsS62.drew | apply IsS62.set_1 | apply IsS62.set_2) | exact HI0.out)); (case side2 => repeat (first | (with_reducible first | exact HB.out | apply below_alloc | apply pw_below_drewN | apply below_drew1 | refine below_set ?_ (IsS62.ge HI0.out)) | exact HB.out)); rintro e w27 ⟨rfl, hi, hb, hk⟩; refine ⟨_, rfl, ?_⟩; replace HO275 := Aside0.mk (Kd.R_mono (Kd.R_keep (IsS62.apart (show IsS62 w0 _ g s0_0 t277 t278 from z2) z20 (by decide)) hk (fun _ h => h.2)) (fun _ h => h.1)); replace HO282 := Aside0.mk (Kd.R_mono (Kd.R_keep (IsS62.apart (show IsS62 w0 _ g s0_0 t277 t278 from z2) z27 (by decide)) hk (fun _ h => h.2)) (fun _ h => h.1)); replace HK := Aside0.mk (KeepBut.trans z1 hk (.inl rfl)); replace HB := Aside0.mk (hb); replace HI0 := Aside0.mk (hi); (try clear hb); (try clear hk); (try clear hi); obtain ⟨Ao28, co28, eo28⟩ := Kd.R_slice HO282.out; subst eo28; have p286 : 0 ≤ (t283 : Int) := of_decide_eq_true z3; have q286 : t283 < (y280.length : Int) := of_decide_eq_true z3; obtain ⟨ad286, e286, hx286_0⟩ := Kd.at_string (Kd.R_reads' HO282.out).2.2 t283 p286 q286; cases e286; replace p286 := eq_true p286; replace q286 := eq_true q286))
             have pi293 : (0 ≤ (t290 : Int)) = True := eq_true (of_decide_eq_true z3)
             have qi293 : (t290 < (y287.length : Int)) = True := eq_true (of_decide_eq_true z3)
             have n0_ := Aside0.mk (Kd.R_drew HO275.out)
             have n1_ := Aside0.mk (Kd.R_drew HO282.out)
             have n2_ := Aside0.mk (IsS62.drew HI0.out)
             have n3_ := Aside0.mk (keep_drew HK.out)
             have n4_ := Aside0.mk (below_drew1 HB.out)
             clear HO275
             clear HO282
             clear HI0
             clear HK
             clear HB
             have HO275 := n0_
             have HO282 := n1_
             have HI0 := n2_
             have HK := n3_
             have HB := n4_
             clear n0_ n1_ n2_ n3_ n4_
             refine start_ (n := 11) (S := fun w' => True) (ds := []) #[false, false, false, false, false, false, false, false, false, false, false] (by kernel_rfl) rfl rfl trivial (fun hHeld => ?_); refine with_tabW spec_l7url.tab3 spec_l7url.bits3 (fun HT_ HW_ => ?_)
             generalize w27.drew = w29 at HO275 HO282 HI0 HK HB hHeld ⊢
             refine pz 0 16 ?_
             refine pz 2 18 ?_
             refine pz 7 23 ?_
             refine inv_at [1, 3, 4, 5, 6, 8, 9, 10] (fun a0_ b a w' => ∃ (v288 : Value) (adz_v288 : Addr) (m4_ : Value), a = putSel a0_ b [(1, 17, v288), (3, 19, .int .i64 t290), (4, 20, m4_), (5, 21, .string (rdOf ByteArray.empty y287 t290)), (6, 22, .string (((rdOf ByteArray.empty y273 t276) ++ (rdOf ByteArray.empty y280 t283)) ++ (rdOf ByteArray.empty y287 t290))), (8, 24, .string t294), (9, 25, .string ((((rdOf ByteArray.empty y273 t276) ++ (rdOf ByteArray.empty y280 t283)) ++ (rdOf ByteArray.empty y287 t290)) ++ t294)), (10, 3, .string ((((rdOf ByteArray.empty y273 t276) ++ (rdOf ByteArray.empty y280 t283)) ++ (rdOf ByteArray.empty y287 t290)) ++ t294))] ∧ (Kd.R Kd.string 9 w' w.heap.size (fun k_ => some k_ ≠ (.slice (some ad286) y280.length co28 : Value).ownBlock) (.slice (some ad279) y273.length co24) y273) ∧ (Kd.R Kd.string 9 w' w.heap.size (fun k_ => some k_ ≠ (.slice (some ad279) y273.length co24 : Value).ownBlock) (.slice (some ad286) y280.length co28) y280) ∧ (b 3 = false → IsS62 w0 w' g s0_0 t284 t285) ∧ (KeepBut w w' g none) ∧ (Below w0.heap.size w0 w') ∧ (b 1 = true → Kd.R Kd.string 9 w' w.heap.size (fun k_ => some k_ ≠ (.slice (some ad279) y273.length co24 : Value).ownBlock ∧ some k_ ≠ (.slice (some ad286) y280.length co28 : Value).ownBlock) v288 y287) ∧ (b 1 = true → ∃ c_, (v288 : Value) = .slice (some adz_v288) y287.length c_) ∧ (b 3 = true → b 8 = false → IsS62 w0 w' g s0_0 t291 t292) ∧ (b 8 = true → IsS62 w0 w' g s0_0 t295 t296) ∧ (b 4 = true → (m4_ : Value) = .pointer (some (adz_v288.add (t290).toNat)))) HT_.out HW_.out (by kernel_rfl) (by kernel_rfl) ?_ ?_ ?_
             ·exact ⟨.bool false, ⟨0, 0, none⟩, .bool false, by simp only [putSel, Bool.false_eq_true, if_false], Kd.R_mono HO275.out (fun _ hk => by first | exact hk | exact hk.2), Kd.R_mono HO282.out (fun _ hk => by first | exact hk | exact hk.2), fun _ => HI0.out, HK.out, HB.out, fun h_ => absurd h_ (by decide), fun h_ => absurd h_ (by decide), fun h_ => absurd h_ (by decide), fun h_ => absurd h_ (by decide), fun h_ => absurd h_ (by decide)⟩
             ·skip
              clear HB HI0 HK HO275 HO282
              refine steps_cons ?_ ?_
              ·rintro b a w' ⟨v288, adz_v288, m4_, ha, Q_HO275, Q_HO282, Q_HI0, Q_HK, Q_HB, Q_HO289, Q_HA_HO289, Q_HI0_e3, Q_HI0_e8, Q_X4_⟩ hb_ hon hoff
               refine ⟨_, rfl, fun K hK => ?_⟩
               replace ha := Aside0.mk ha
               have HO275 := Aside0.mk Q_HO275
               have HO282 := Aside0.mk Q_HO282
               have HK := Aside0.mk Q_HK
               have HB := Aside0.mk Q_HB
               refine Kd.R_lit_step Kd.string _ 9 ?hg (N := 17) ?hd (xs := ([(⟨#[]⟩ : ByteArray), (⟨#[]⟩ : ByteArray), (⟨#[58, 56, 48]⟩ : ByteArray), (⟨#[58, 56, 48, 56, 48]⟩ : ByteArray), (⟨#[58, 54, 53, 53, 51, 53]⟩ : ByteArray)] : List ByteArray)) (inner := [.string (⟨#[]⟩ : ByteArray), .string (⟨#[]⟩ : ByteArray), .string (⟨#[58, 56, 48]⟩ : ByteArray), .string (⟨#[58, 56, 48, 56, 48]⟩ : ByteArray), .string (⟨#[58, 54, 53, 53, 51, 53]⟩ : ByteArray)]) (ok := fun _ => True) (okp := fun _ => True) ?hr ?hp (fun _ hk => hk) trivial (Below.refl _ _) (Nat.le_refl _) (by simp) ?_; (case hd => rfl); (case hg => rfl); (case hr => first | (go_simp; done) | (go_simp; rfl)); (case hp => exact (Reps.one (show Kd.M Kd.string _ _ _ (⟨#[]⟩ : ByteArray) [.string (⟨#[]⟩ : ByteArray)] from rfl) (Reps.one (show Kd.M Kd.string _ _ _ (⟨#[]⟩ : ByteArray) [.string (⟨#[]⟩ : ByteArray)] from rfl) (Reps.one (show Kd.M Kd.string _ _ _ (⟨#[58, 56, 48]⟩ : ByteArray) [.string (⟨#[58, 56, 48]⟩ : ByteArray)] from rfl) (Reps.one (show Kd.M Kd.string _ _ _ (⟨#[58, 56, 48, 56, 48]⟩ : ByteArray) [.string (⟨#[58, 56, 48, 56, 48]⟩ : ByteArray)] from rfl) (Reps.one (show Kd.M Kd.string _ _ _ (⟨#[58, 54, 53, 53, 51, 53]⟩ : ByteArray) [.string (⟨#[58, 54, 53, 53, 51, 53]⟩ : ByteArray)] from rfl) (Reps.none _ _)))))))
               intro v288 w30 ho31 hb hg_ hnew_
               clear hg_ hnew_
               (first | rw [← Ny287.out] at ho31 | (simp only [Int.reduceToNat] at ho31; rw [← Ny287.out] at ho31))
               have n0_ := Aside0.mk (Kd.R_elder' z20 (Kd.R_base ho31) hb)
               have n1_ := Aside0.mk (Kd.R_elder' z27 (Kd.R_base ho31) hb)
               have n2_ := Aside0.mk (Kd.R_lower (Kd.R_new' (Kd.R_new' ho31 (Kd.R_lt z20)) (Kd.R_lt z27)) (keep_size (w := w) (g := g) (row := none) z1))
               have n4_ := Aside0.mk (KeepBut.trans z1 (KeepBut.of_below hb g none) (.inl rfl))
               have n5_ := Aside0.mk (below_step z0 hb)
               have z_HI0 := fun (h0_ : b 3 = false) => (show IsS62 w0 w30 g s0_0 t284 t285 from by first | exact (IsS62.below z89 hb))
               have z_HI0_e3 := fun (h0_ : b 3 = true) (h1_ : b 8 = false) => (show IsS62 w0 w30 g s0_0 t291 t292 from by first | exact (IsS62.below z87 hb))
               have z_HI0_e8 := fun (h0_ : b 8 = true) => (show IsS62 w0 w30 g s0_0 t295 t296 from by first | exact (IsS62.below z88 hb))
               clear HO275
               clear HO282
               clear HK
               clear HB
               have HO275 := n0_
               have HO282 := n1_
               have HO289 := n2_
               have HK := n4_
               have HB := n5_
               clear n0_ n1_ n2_ n4_ n5_
               clear hb ho31
               obtain ⟨Ao32, co32, eo32⟩ := Kd.R_slice HO289.out
               subst eo32
               obtain ⟨ado32, fo32, _⟩ := Kd.at_string (Kd.R_reads' HO289.out).2.2 0 (by decide) (by rw [Ny287.out]; simp)
               cases fo32
               refine hK.out _ _ ⟨.slice (some ado32) y287.length co32, ado32, m4_, (by rw [ha.out]; exact putSel_upk 0 hb_ rfl rfl rfl), z113, z111, z_HI0, z1, z0, fun _ => z109, fun _ => ⟨_, rfl⟩, z_HI0_e3, z_HI0_e8, fun h0_ => absurd ((hoff 4 (by kernel_rfl)).symm.trans h0_) (by decide)⟩
              refine steps_cons ?_ ?_
              ·rintro b a w' ⟨v288, adz_v288, m4_, ha, Q_HO275, Q_HO282, Q_HI0, Q_HK, Q_HB, Q_HO289, Q_HA_HO289, Q_HI0_e3, Q_HI0_e8, Q_X4_⟩ hb_ hon hoff
               refine ⟨_, rfl, fun K hK => ?_⟩
               have e18 : a.tmps[18]? = some (.pointer (some ⟨g, 0, none⟩)) := z85
               replace ha := Aside0.mk ha
               have HO275 := Aside0.mk Q_HO275
               have HO282 := Aside0.mk Q_HO282
               have HI0 := Aside0.mk (Q_HI0 hb_)
               have HK := Aside0.mk Q_HK
               have HB := Aside0.mk Q_HB
               refine goes_ Tryz.func44 (by kernel_rfl) rfl #[.pointer (some ⟨g, 0, none⟩), .int .i64 5] (by rfl) rfl rfl z69 ?_
               with_reducible refine (spec_l1Below.calls g s0_0 t284 t285 5 t290 t291 t292 w0 _ ?side1 ?side2 A9.out).mono ?_
               (case side1 => repeat (first | (with_reducible first | exact HI0.out | apply IsS62.alloc | apply IsS62.drewN | apply IsS62.drew | apply IsS62.set_1 | apply IsS62.set_2) | exact HI0.out))
               (case side2 => repeat (first | (with_reducible first | exact HB.out | apply below_alloc | apply pw_below_drewN | apply below_drew1 | refine below_set ?_ (IsS62.ge HI0.out)) | exact HB.out))
               rintro e w30 ⟨rfl, hi, hb, hk⟩
               refine ⟨_, rfl, ?_⟩
               have n0_ := Aside0.mk (Kd.R_mono (Kd.R_keep (IsS62.apart (show IsS62 w0 _ g s0_0 t284 t285 from z2) z20 (by decide)) hk (fun _ h => h.2)) (fun _ h => h.1))
               have n1_ := Aside0.mk (Kd.R_mono (Kd.R_keep (IsS62.apart (show IsS62 w0 _ g s0_0 t284 t285 from z2) z27 (by decide)) hk (fun _ h => h.2)) (fun _ h => h.1))
               have n2_ := Aside0.mk (KeepBut.trans z1 hk (.inl rfl))
               have n3_ := Aside0.mk (hb)
               have n4_ := Aside0.mk (hi)
               have z_HO289 := fun (h0_ : b 1 = true) => (show Kd.R Kd.string 9 w30 w.heap.size (fun k_ => some k_ ≠ (.slice (some ad279) y273.length co24 : Value).ownBlock ∧ some k_ ≠ (.slice (some ad286) y280.length co28 : Value).ownBlock) v288 y287 from z106)
               clear HO275
               clear HO282
               clear HK
               clear HB
               clear HI0
               have HO275 := n0_
               have HO282 := n1_
               have HK := n2_
               have HB := n3_
               have HI0 := n4_
               clear n0_ n1_ n2_ n3_ n4_
               (try clear hb)
               (try clear hb2)
               (try clear hk)
               (try clear hi)
               refine hK.out _ _ ⟨v288, adz_v288, m4_, (by rw [ha.out]; exact putSel_upk 1 hb_ rfl rfl rfl), z112, z110, fun h0_ => absurd ((up_self b 3).symm.trans h0_) (by decide), z1, z6, z_HO289, Q_HA_HO289, fun _ _ => z2, fun h0_ => absurd ((hoff 8 (by kernel_rfl)).symm.trans h0_) (by decide), fun h0_ => absurd ((hoff 4 (by kernel_rfl)).symm.trans h0_) (by decide)⟩
              refine steps_cons ?_ ?_
              ·rintro b a w' ⟨v288, adz_v288, m4_, ha, Q_HO275, Q_HO282, Q_HI0, Q_HK, Q_HB, Q_HO289, Q_HA_HO289, Q_HI0_e3, Q_HI0_e8, Q_X4_⟩ hb_ hon hoff
               refine ⟨_, rfl, fun K hK => ?_⟩
               have e17 : a.tmps[17]? = some (v288) := by rw [ha]; exact putSel_on (e := (1, 17, v288)) 0 rfl rfl (hon 1 (by kernel_rfl)) rfl
               have e19 : a.tmps[19]? = some (.int .i64 t290) := by rw [ha]; exact putSel_on (e := (3, 19, .int .i64 t290)) 1 rfl rfl (hon 3 (by kernel_rfl)) rfl
               replace ha := Aside0.mk ha
               have HO275 := Aside0.mk Q_HO275
               have HO282 := Aside0.mk Q_HO282
               have HK := Aside0.mk Q_HK
               have HB := Aside0.mk Q_HB
               have HO289 := Aside0.mk (Q_HO289 (hon 1 (by kernel_rfl)))
               have HA_HO289 := Aside0.mk (Q_HA_HO289 (hon 1 (by kernel_rfl)))
               obtain ⟨c_, hv_⟩ := HA_HO289.out
               rw [hv_] at e17
               refine value_ (w1 := w') (v := .pointer (some (adz_v288.add (t290).toNat))) (by rfl) rfl ?_ ?_
               ·go_simp
                (try simp only [i64_w])
                try rfl
               refine hK.out _ _ ⟨v288, adz_v288, (.pointer (some (adz_v288.add (t290).toNat))), (by rw [ha.out]; exact putSel_upk 2 hb_ rfl rfl rfl), Q_HO275, Q_HO282, fun h0_ => absurd ((hon 3 (by kernel_rfl)).symm.trans h0_) (by decide), Q_HK, Q_HB, Q_HO289, Q_HA_HO289, Q_HI0_e3, Q_HI0_e8, fun _ => rfl⟩
              refine steps_cons ?_ ?_
              ·rintro b a w' ⟨v288, adz_v288, m4_, ha, Q_HO275, Q_HO282, Q_HI0, Q_HK, Q_HB, Q_HO289, Q_HA_HO289, Q_HI0_e3, Q_HI0_e8, Q_X4_⟩ hb_ hon hoff
               refine ⟨_, rfl, fun K hK => ?_⟩
               have e20 : a.tmps[20]? = some (m4_) := by rw [ha]; exact putSel_on (e := (4, 20, m4_)) 2 rfl rfl (hon 4 (by kernel_rfl)) rfl
               rw [Q_X4_ (hon 4 (by kernel_rfl))] at e20
               replace ha := Aside0.mk ha
               have HO275 := Aside0.mk Q_HO275
               have HO282 := Aside0.mk Q_HO282
               have HK := Aside0.mk Q_HK
               have HB := Aside0.mk Q_HB
               have HO289 := Aside0.mk (Q_HO289 (hon 1 (by kernel_rfl)))
               have HA_HO289 := Aside0.mk (Q_HA_HO289 (hon 1 (by kernel_rfl)))
               obtain ⟨c_, hv_⟩ := HA_HO289.out
               have hF_ := HO289.out
               rw [hv_] at hF_
               obtain ⟨ad_, ea_, hx_⟩ := Kd.at_string (Kd.R_reads' hF_).2.2 t290 (of_eq_true pi293) (of_eq_true qi293)
               cases ea_
               refine value_ (w1 := w') (v := .string (rdOf ByteArray.empty y287 t290)) (by rfl) rfl ?_ ?_
               ·go_simp
                (try simp only [i64_w])
                try rfl
               refine hK.out _ _ ⟨v288, adz_v288, m4_, (by rw [ha.out]; exact putSel_upk 3 hb_ rfl rfl rfl), Q_HO275, Q_HO282, fun h0_ => absurd ((hon 3 (by kernel_rfl)).symm.trans h0_) (by decide), Q_HK, Q_HB, Q_HO289, Q_HA_HO289, Q_HI0_e3, Q_HI0_e8, Q_X4_⟩
              refine steps_cons ?_ ?_
              ·rintro b a w' ⟨v288, adz_v288, m4_, ha, Q_HO275, Q_HO282, Q_HI0, Q_HK, Q_HB, Q_HO289, Q_HA_HO289, Q_HI0_e3, Q_HI0_e8, Q_X4_⟩ hb_ hon hoff
               refine ⟨_, rfl, fun K hK => ?_⟩
               have e16 : a.tmps[16]? = some (.string ((rdOf ByteArray.empty y273 t276) ++ (rdOf ByteArray.empty y280 t283))) := z85
               have e21 : a.tmps[21]? = some (.string (rdOf ByteArray.empty y287 t290)) := by rw [ha]; exact putSel_on (e := (5, 21, .string (rdOf ByteArray.empty y287 t290))) 3 rfl rfl (hon 5 (by kernel_rfl)) rfl
               replace ha := Aside0.mk ha
               have HO275 := Aside0.mk Q_HO275
               have HO282 := Aside0.mk Q_HO282
               have HK := Aside0.mk Q_HK
               have HB := Aside0.mk Q_HB
               have HO289 := Aside0.mk (Q_HO289 (hon 1 (by kernel_rfl)))
               have HA_HO289 := Aside0.mk (Q_HA_HO289 (hon 1 (by kernel_rfl)))
               refine value_ (w1 := w') (v := .string (((rdOf ByteArray.empty y273 t276) ++ (rdOf ByteArray.empty y280 t283)) ++ (rdOf ByteArray.empty y287 t290))) (by rfl) rfl ?_ ?_
               ·go_simp
                (try simp only [i64_w])
                try rfl
               refine hK.out _ _ ⟨v288, adz_v288, m4_, (by rw [ha.out]; exact putSel_upk 4 hb_ rfl rfl rfl), Q_HO275, Q_HO282, fun h0_ => absurd ((hon 3 (by kernel_rfl)).symm.trans h0_) (by decide), Q_HK, Q_HB, Q_HO289, Q_HA_HO289, Q_HI0_e3, Q_HI0_e8, Q_X4_⟩
              refine steps_cons ?_ ?_
              ·rintro b a w' ⟨v288, adz_v288, m4_, ha, Q_HO275, Q_HO282, Q_HI0, Q_HK, Q_HB, Q_HO289, Q_HA_HO289, Q_HI0_e3, Q_HI0_e8, Q_X4_⟩ hb_ hon hoff
               refine ⟨_, rfl, fun K hK => ?_⟩
               have e23 : a.tmps[23]? = some (.pointer (some ⟨g, 0, none⟩)) := z85
               replace ha := Aside0.mk ha
               have HO275 := Aside0.mk Q_HO275
               have HO282 := Aside0.mk Q_HO282
               have HK := Aside0.mk Q_HK
               have HB := Aside0.mk Q_HB
               have HI0 := Aside0.mk (Q_HI0_e3 (hon 3 (by kernel_rfl)) hb_)
               refine goes_ Tryz.func47 (by kernel_rfl) rfl #[.pointer (some ⟨g, 0, none⟩)] (by rfl) rfl rfl z68 ?_
               with_reducible refine (spec_l7path.calls k g s0_0 t291 t292 t294 t295 t296 w0 _ ?side1 ?side2 A13.out).mono ?_
               (case side1 => repeat (first | (with_reducible first | exact HI0.out | apply IsS62.alloc | apply IsS62.drewN | apply IsS62.drew | apply IsS62.set_1 | apply IsS62.set_2) | exact HI0.out))
               (case side2 => repeat (first | (with_reducible first | exact HB.out | apply below_alloc | apply pw_below_drewN | apply below_drew1 | refine below_set ?_ (IsS62.ge HI0.out)) | exact HB.out))
               rintro e w32 ⟨rfl, hi, hb, hk⟩
               refine ⟨_, rfl, ?_⟩
               have n0_ := Aside0.mk (Kd.R_mono (Kd.R_keep (IsS62.apart (show IsS62 w0 _ g s0_0 t291 t292 from z2) z20 (by decide)) hk (fun _ h => h.2)) (fun _ h => h.1))
               have n1_ := Aside0.mk (Kd.R_mono (Kd.R_keep (IsS62.apart (show IsS62 w0 _ g s0_0 t291 t292 from z2) z27 (by decide)) hk (fun _ h => h.2)) (fun _ h => h.1))
               have n2_ := Aside0.mk (KeepBut.trans z1 hk (.inl rfl))
               have n3_ := Aside0.mk (hb)
               have n4_ := Aside0.mk (hi)
               have z_HO289 := fun (h0_ : b 1 = true) => (show Kd.R Kd.string 9 w32 w.heap.size (fun k_ => some k_ ≠ (.slice (some ad279) y273.length co24 : Value).ownBlock ∧ some k_ ≠ (.slice (some ad286) y280.length co28 : Value).ownBlock) v288 y287 from z105)
               clear HO275
               clear HO282
               clear HK
               clear HB
               clear HI0
               have HO275 := n0_
               have HO282 := n1_
               have HK := n2_
               have HB := n3_
               have HI0 := n4_
               clear n0_ n1_ n2_ n3_ n4_
               (try clear hb)
               (try clear hb2)
               (try clear hk)
               (try clear hi)
               refine hK.out _ _ ⟨v288, adz_v288, m4_, (by rw [ha.out]; exact putSel_upk 5 hb_ rfl rfl rfl), z20, z27, fun h0_ => absurd ((hon 3 (by kernel_rfl)).symm.trans h0_) (by decide), z1, z6, z_HO289, Q_HA_HO289, fun _ h1_ => absurd ((up_self b 8).symm.trans h1_) (by decide), fun _ => z2, Q_X4_⟩
              refine steps_cons ?_ ?_
              ·rintro b a w' ⟨v288, adz_v288, m4_, ha, Q_HO275, Q_HO282, Q_HI0, Q_HK, Q_HB, Q_HO289, Q_HA_HO289, Q_HI0_e3, Q_HI0_e8, Q_X4_⟩ hb_ hon hoff
               refine ⟨_, rfl, fun K hK => ?_⟩
               have e22 : a.tmps[22]? = some (.string (((rdOf ByteArray.empty y273 t276) ++ (rdOf ByteArray.empty y280 t283)) ++ (rdOf ByteArray.empty y287 t290))) := z86
               have e24 : a.tmps[24]? = some (.string t294) := by rw [ha]; exact putSel_on (e := (8, 24, .string t294)) 5 rfl rfl (hon 8 (by kernel_rfl)) rfl
               replace ha := Aside0.mk ha
               have HO275 := Aside0.mk Q_HO275
               have HO282 := Aside0.mk Q_HO282
               have HK := Aside0.mk Q_HK
               have HB := Aside0.mk Q_HB
               have HO289 := Aside0.mk (Q_HO289 (hon 1 (by kernel_rfl)))
               have HA_HO289 := Aside0.mk (Q_HA_HO289 (hon 1 (by kernel_rfl)))
               have HI0 := Aside0.mk (Q_HI0_e8 (hon 8 (by kernel_rfl)))
               refine value_ (w1 := w') (v := .string ((((rdOf ByteArray.empty y273 t276) ++ (rdOf ByteArray.empty y280 t283)) ++ (rdOf ByteArray.empty y287 t290)) ++ t294)) (by rfl) rfl ?_ ?_
               ·go_simp
                (try simp only [i64_w])
                try rfl
               refine hK.out _ _ ⟨v288, adz_v288, m4_, (by rw [ha.out]; exact putSel_upk 6 hb_ rfl rfl rfl), Q_HO275, Q_HO282, fun h0_ => absurd ((hon 3 (by kernel_rfl)).symm.trans h0_) (by decide), Q_HK, Q_HB, Q_HO289, Q_HA_HO289, fun _ h1_ => absurd ((hon 8 (by kernel_rfl)).symm.trans h1_) (by decide), Q_HI0_e8, Q_X4_⟩
              refine steps_cons ?_ ?_
              ·rintro b a w' ⟨v288, adz_v288, m4_, ha, Q_HO275, Q_HO282, Q_HI0, Q_HK, Q_HB, Q_HO289, Q_HA_HO289, Q_HI0_e3, Q_HI0_e8, Q_X4_⟩ hb_ hon hoff
               refine ⟨_, rfl, fun K hK => ?_⟩
               have e25 : a.tmps[25]? = some (.string ((((rdOf ByteArray.empty y273 t276) ++ (rdOf ByteArray.empty y280 t283)) ++ (rdOf ByteArray.empty y287 t290)) ++ t294)) := z84
               replace ha := Aside0.mk ha
               have HO275 := Aside0.mk Q_HO275
               have HO282 := Aside0.mk Q_HO282
               have HK := Aside0.mk Q_HK
               have HB := Aside0.mk Q_HB
               have HO289 := Aside0.mk (Q_HO289 (hon 1 (by kernel_rfl)))
               have HA_HO289 := Aside0.mk (Q_HA_HO289 (hon 1 (by kernel_rfl)))
               have HI0 := Aside0.mk (Q_HI0_e8 (hon 8 (by kernel_rfl)))
               refine value_ (w1 := w') (v := .string ((((rdOf ByteArray.empty y273 t276) ++ (rdOf ByteArray.empty y280 t283)) ++ (rdOf ByteArray.empty y287 t290)) ++ t294)) (by rfl) rfl ?_ ?_
               ·go_simp
                (try simp only [i64_w])
                try rfl
               refine hK.out _ _ ⟨v288, adz_v288, m4_, (by rw [ha.out]; exact putSel_upk 7 hb_ rfl rfl rfl), Q_HO275, Q_HO282, fun h0_ => absurd ((hon 3 (by kernel_rfl)).symm.trans h0_) (by decide), Q_HK, Q_HB, Q_HO289, Q_HA_HO289, fun _ h1_ => absurd ((hon 8 (by kernel_rfl)).symm.trans h1_) (by decide), Q_HI0_e8, Q_X4_⟩
              exact steps_nil
             rintro b a w35 hall ⟨v288, adz_v288, m4_, ha, Q_HO275, Q_HO282, Q_HI0, Q_HK, Q_HB, Q_HO289, Q_HA_HO289, Q_HI0_e3, Q_HI0_e8, Q_X4_⟩
             clear HB HI0 HK HO275 HO282
             have hb1_ := hall 1 (by kernel_rfl)
             have hb3_ := hall 3 (by kernel_rfl)
             have hb4_ := hall 4 (by kernel_rfl)
             have hb5_ := hall 5 (by kernel_rfl)
             have hb6_ := hall 6 (by kernel_rfl)
             have hb8_ := hall 8 (by kernel_rfl)
             have hb9_ := hall 9 (by kernel_rfl)
             have hb10_ := hall 10 (by kernel_rfl)
             subst ha
             obtain rfl := Q_X4_ hb4_
             simp only [putSel, hb1_, hb3_, hb4_, hb5_, hb6_, hb8_, hb9_, hb10_, if_true, Act.put, List.setIfInBounds_toArray, List.set_cons_zero, List.set_cons_succ]
             have HO275 := Aside0.mk Q_HO275
             clear Q_HO275
             have HO282 := Aside0.mk Q_HO282
             clear Q_HO282
             clear Q_HI0
             have HK := Aside0.mk Q_HK
             clear Q_HK
             have HB := Aside0.mk Q_HB
             clear Q_HB
             have HO289 := Aside0.mk (Q_HO289 hb1_)
             clear Q_HO289
             have HA_HO289 := Aside0.mk (Q_HA_HO289 hb1_)
             clear Q_HA_HO289
             clear Q_HI0_e3
             have HI0 := Aside0.mk (Q_HI0_e8 hb8_)
             clear Q_HI0_e8
             clear hall hb1_ hb3_ hb4_ hb5_ hb6_ hb8_ hb9_ hb10_
             obtain ⟨co36, eo36⟩ := HA_HO289.out
             clear HA_HO289
             subst eo36
             try go_wp2_with (first | ((with_reducible refine gate_callee (f := 43) rfl ?_); refine goesQ_ 27 Tryz.func43 #[.pointer (some ⟨g, 0, none⟩), .int .i64 3] ?_; (with_reducible refine (spec_l1Once.calls g s0_0 t295 t296 3 true t298 t299 w0 _ ?side1 ?side2 A15.out).mono ?_); (case side1 => repeat (first | (with_reducible first | exact HI0.out | apply IsS62.alloc | apply IsS62.drewN | apply IsS62.drew | apply IsS62.set_1 | apply IsS62.set_2) | exact HI0.out)); (case side2 => repeat (first | (with_reducible first | exact HB.out | apply below_alloc | apply pw_below_drewN | apply below_drew1 | refine below_set ?_ (IsS62.ge HI0.out)) | exact HB.out)); rintro e w37 ⟨rfl, hi, hb, hk⟩; refine ⟨_, rfl, ?_⟩; replace HO275 := Aside0.mk (Kd.R_mono (Kd.R_keep (IsS62.apart (show IsS62 w0 _ g s0_0 t295 t296 from z2) z20 (by decide)) hk (fun _ h => h.2)) (fun _ h => h.1)); replace HO282 := Aside0.mk (Kd.R_mono (Kd.R_keep (IsS62.apart (show IsS62 w0 _ g s0_0 t295 t296 from z2) z27 (by decide)) hk (fun _ h => h.2)) (fun _ h => h.1)); replace HO289 := Aside0.mk (Kd.R_mono (Kd.R_keep (IsS62.apart (show IsS62 w0 _ g s0_0 t295 t296 from z2) z65 (by decide)) hk (fun _ h => h.2)) (fun _ h => h.1)); replace HK := Aside0.mk (KeepBut.trans z1 hk (.inl rfl)); replace HB := Aside0.mk (hb); replace HI0 := Aside0.mk (hi); (try clear hb); (try clear hk); (try clear hi)) | ((with_reducible refine gate_callee (f := 44) rfl ?_); refine goesQ_ 32 Tryz.func44 #[.pointer (some ⟨g, 0, none⟩), .int .i64 5] ?_; (with_reducible refine (spec_l1Below.calls g s0_0 t298 t299 5 t300 t301 t302 w0 _ ?side1 ?side2 A18.out).mono ?_); (case side1 => repeat (first | (with_reducible first | exact HI0.out | apply IsS62.alloc | apply IsS62.drewN | apply IsS62.drew | apply IsS62.set_1 | apply IsS62.set_2) | exact HI0.out)); (case side2 => repeat (first | (with_reducible first | exact HB.out | apply below_alloc | apply pw_below_drewN | apply below_drew1 | refine below_set ?_ (IsS62.ge HI0.out)) | exact HB.out)); rintro e w38 ⟨rfl, hi, hb, hk⟩; refine ⟨_, rfl, ?_⟩; replace HO275 := Aside0.mk (Kd.R_mono (Kd.R_keep (IsS62.apart (show IsS62 w0 _ g s0_0 t298 t299 from z2) z20 (by decide)) hk (fun _ h => h.2)) (fun _ h => h.1)); replace HO282 := Aside0.mk (Kd.R_mono (Kd.R_keep (IsS62.apart (show IsS62 w0 _ g s0_0 t298 t299 from z2) z27 (by decide)) hk (fun _ h => h.2)) (fun _ h => h.1)); replace HO289 := Aside0.mk (Kd.R_mono (Kd.R_keep (IsS62.apart (show IsS62 w0 _ g s0_0 t298 t299 from z2) z65 (by decide)) hk (fun _ h => h.2)) (fun _ h => h.1)); replace HK := Aside0.mk (KeepBut.trans z1 hk (.inl rfl)); replace HB := Aside0.mk (hb); replace HI0 := Aside0.mk (hi); (try clear hb); (try clear hk); (try clear hi)) | ((with_reducible refine gate_callee (f := 48) rfl ?_); refine goesQ_ 33 Tryz.func48 #[.pointer (some ⟨g, 0, none⟩), .int .i64 t300, .string (⟨#[97, 63, 47, 61, 37, 46]⟩ : ByteArray)] ?_; (with_reducible refine (spec_l1of.calls k g s0_0 t301 t302 t300 (⟨#[97, 63, 47, 61, 37, 46]⟩ : ByteArray) t303 t304 t305 w0 _ ?side1 ?side2 A19.out).mono ?_); (case side1 => repeat (first | (with_reducible first | exact HI0.out | apply IsS62.alloc | apply IsS62.drewN | apply IsS62.drew | apply IsS62.set_1 | apply IsS62.set_2) | exact HI0.out)); (case side2 => repeat (first | (with_reducible first | exact HB.out | apply below_alloc | apply pw_below_drewN | apply below_drew1 | refine below_set ?_ (IsS62.ge HI0.out)) | exact HB.out)); rintro e w39 ⟨rfl, hi, hb, hk⟩; refine ⟨_, rfl, ?_⟩; replace HO275 := Aside0.mk (Kd.R_mono (Kd.R_keep (IsS62.apart (show IsS62 w0 _ g s0_0 t301 t302 from z2) z20 (by decide)) hk (fun _ h => h.2)) (fun _ h => h.1)); replace HO282 := Aside0.mk (Kd.R_mono (Kd.R_keep (IsS62.apart (show IsS62 w0 _ g s0_0 t301 t302 from z2) z27 (by decide)) hk (fun _ h => h.2)) (fun _ h => h.1)); replace HO289 := Aside0.mk (Kd.R_mono (Kd.R_keep (IsS62.apart (show IsS62 w0 _ g s0_0 t301 t302 from z2) z65 (by decide)) hk (fun _ h => h.2)) (fun _ h => h.1)); replace HK := Aside0.mk (KeepBut.trans z1 hk (.inl rfl)); replace HB := Aside0.mk (hb); replace HI0 := Aside0.mk (hi); (try clear hb); (try clear hk); (try clear hi)))
             go_ret
             exact ⟨z4, z2, z6, z1⟩
            ·rw [if_neg c20] at H
             exact absurd H (by simp)
           ·rw [if_neg c17] at H
            exact absurd H (by simp)
          ·replace c16 := Bool.eq_false_iff.mpr c16
           subst c16
           rw [if_neg Bool.false_ne_true] at H
           simp only [Option.some.injEq, Prod.mk.injEq] at H
           obtain ⟨rfl, rfl, rfl⟩ := H
           go_enter Tryz.func42, Tryz.ntmps42
           try go_wp2_with (first | ((with_reducible refine gate_dst (N := 4) rfl ?_); refine Kd.R_lit Kd.string _ 9 ?hg (N := 4) ?hd (xs := ([(⟨#[104, 116, 116, 112, 58, 47, 47]⟩ : ByteArray), (⟨#[72, 84, 84, 80, 58, 47, 47]⟩ : ByteArray), (⟨#[72, 116, 116, 112, 58, 47, 47]⟩ : ByteArray)] : List ByteArray)) (inner := [.string (⟨#[104, 116, 116, 112, 58, 47, 47]⟩ : ByteArray), .string (⟨#[72, 84, 84, 80, 58, 47, 47]⟩ : ByteArray), .string (⟨#[72, 116, 116, 112, 58, 47, 47]⟩ : ByteArray)]) (ok := fun _ => True) (okp := fun _ => True) ?hr ?hp (fun _ hk => hk) trivial (Below.refl _ _) (Nat.le_refl _) (by simp) ?_; (case hd => rfl); (case hg => rfl); (case hr => first | (go_simp; done) | (go_simp; rfl)); (case hp => exact (Reps.one (show Kd.M Kd.string _ _ _ (⟨#[104, 116, 116, 112, 58, 47, 47]⟩ : ByteArray) [.string (⟨#[104, 116, 116, 112, 58, 47, 47]⟩ : ByteArray)] from rfl) (Reps.one (show Kd.M Kd.string _ _ _ (⟨#[72, 84, 84, 80, 58, 47, 47]⟩ : ByteArray) [.string (⟨#[72, 84, 84, 80, 58, 47, 47]⟩ : ByteArray)] from rfl) (Reps.one (show Kd.M Kd.string _ _ _ (⟨#[72, 116, 116, 112, 58, 47, 47]⟩ : ByteArray) [.string (⟨#[72, 116, 116, 112, 58, 47, 47]⟩ : ByteArray)] from rfl) (Reps.none _ _))))); intro v274 w40 ho41 hb hg_ hnew_; clear hg_ hnew_; (first | rw [← Ny273.out] at ho41 | (simp only [Int.reduceToNat] at ho41; rw [← Ny273.out] at ho41)); have HO275 := Aside0.mk (Kd.R_lower ho41 (keep_size (w := w) (g := g) (row := none) z1)); replace HK := Aside0.mk (KeepBut.trans z1 (KeepBut.of_below hb g none) (.inl rfl)); replace HB := Aside0.mk (below_step z6 hb); replace HI0 := Aside0.mk (IsS62.below z2 hb); clear hb ho41) | ((with_reducible refine gate_callee (f := 44) rfl ?_); refine goesQ_ 6 Tryz.func44 #[.pointer (some ⟨g, 0, none⟩), .int .i64 3] ?_; (with_reducible refine (spec_l1Below.calls g s0_0 s0_1 s0_2 3 t276 t277 t278 w0 _ ?side1 ?side2 A2.out).mono ?_); (case side1 => repeat (first | (with_reducible first | exact HI0.out | apply IsS62.alloc | apply IsS62.drewN | apply IsS62.drew | apply IsS62.set_1 | apply IsS62.set_2) | exact HI0.out)); (case side2 => repeat (first | (with_reducible first | exact HB.out | apply below_alloc | apply pw_below_drewN | apply below_drew1 | refine below_set ?_ (IsS62.ge HI0.out)) | exact HB.out)); rintro e w42 ⟨rfl, hi, hb, hk⟩; refine ⟨_, rfl, ?_⟩; replace HO275 := Aside0.mk (Kd.R_mono (Kd.R_keep (IsS62.apart (show IsS62 w0 _ g s0_0 s0_1 s0_2 from z2) z20 (by decide)) hk (fun _ h => h.2)) (fun _ h => h.1)); replace HK := Aside0.mk (KeepBut.trans z1 hk (.inl rfl)); replace HB := Aside0.mk (hb); replace HI0 := Aside0.mk (hi); (try clear hb); (try clear hk); (try clear hi); obtain ⟨Ao43, co43, eo43⟩ := Kd.R_slice HO275.out; subst eo43; have p279 : 0 ≤ (t276 : Int) := of_decide_eq_true z3; have q279 : t276 < (y273.length : Int) := of_decide_eq_true z3; obtain ⟨ad279, e279, hx279_0⟩ := Kd.at_string (Kd.R_reads' HO275.out).2.2 t276 p279 q279; cases e279; replace p279 := eq_true p279; replace q279 := eq_true q279) | ((with_reducible refine gate_dst (N := 10) rfl ?_); refine Kd.R_lit Kd.string _ 9 ?hg (N := 10) ?hd (xs := ([(⟨#[97, 46, 101, 120, 97, 109, 112, 108, 101]⟩ : ByteArray), (⟨#[119, 119, 119, 46, 66, 46, 101, 120, 97, 109, 112, 108, 101]⟩ : ByteArray), (⟨#[99]⟩ : ByteArray), (⟨#[120, 45, 49, 46, 121]⟩ : ByteArray)] : List ByteArray)) (inner := [.string (⟨#[97, 46, 101, 120, 97, 109, 112, 108, 101]⟩ : ByteArray), .string (⟨#[119, 119, 119, 46, 66, 46, 101, 120, 97, 109, 112, 108, 101]⟩ : ByteArray), .string (⟨#[99]⟩ : ByteArray), .string (⟨#[120, 45, 49, 46, 121]⟩ : ByteArray)]) (ok := fun _ => True) (okp := fun _ => True) ?hr ?hp (fun _ hk => hk) trivial (Below.refl _ _) (Nat.le_refl _) (by simp) ?_; (case hd => rfl); (case hg => rfl); (case hr => first | (go_simp; done) | (go_simp; rfl)); (case hp => exact (Reps.one (show Kd.M Kd.string _ _ _ (⟨#[97, 46, 101, 120, 97, 109, 112, 108, 101]⟩ : ByteArray) [.string (⟨#[97, 46, 101, 120, 97, 109, 112, 108, 101]⟩ : ByteArray)] from rfl) (Reps.one (show Kd.M Kd.string _ _ _ (⟨#[119, 119, 119, 46, 66, 46, 101, 120, 97, 109, 112, 108, 101]⟩ : ByteArray) [.string (⟨#[119, 119, 119, 46, 66, 46, 101, 120, 97, 109, 112, 108, 101]⟩ : ByteArray)] from rfl) (Reps.one (show Kd.M Kd.string _ _ _ (⟨#[99]⟩ : ByteArray) [.string (⟨#[99]⟩ : ByteArray)] from rfl) (Reps.one (show Kd.M Kd.string _ _ _ (⟨#[120, 45, 49, 46, 121]⟩ : ByteArray) [.string (⟨#[120, 45, 49, 46, 121]⟩ : ByteArray)] from rfl) (Reps.none _ _)))))); intro v281 w44 ho45 hb hg_ hnew_; clear hg_ hnew_; (first | rw [← Ny280.out] at ho45 | (simp only [Int.reduceToNat] at ho45; rw [← Ny280.out] at ho45)); have HO282 := Aside0.mk (Kd.R_lower (Kd.R_new' ho45 (Kd.R_lt z20)) (keep_size (w := w) (g := g) (row := none) z1)); replace HO275 := Aside0.mk (Kd.R_elder' z20 (Kd.R_base ho45) hb); replace HK := Aside0.mk (KeepBut.trans z1 (KeepBut.of_below hb g none) (.inl rfl)); replace HB := Aside0.mk (below_step z6 hb); replace HI0 := Aside0.mk (IsS62.below z2 hb); clear hb ho45) | ((with_reducible refine gate_callee (f := 44) rfl ?_); refine goesQ_ 12 Tryz.func44 #[.pointer (some ⟨g, 0, none⟩), .int .i64 4] ?_; (with_reducible refine (spec_l1Below.calls g s0_0 t277 t278 4 t283 t284 t285 w0 _ ?side1 ?side2 A5.out).mono ?_); (case side1 => repeat (first | (with_reducible first | exact HI0.out | apply IsS62.alloc | apply IsS62.drewN | apply IsS62.drew | apply IsS62.set_1 | apply IsS62.set_2) | exact HI0.out)); (case side2 => repeat (first | (with_reducible first | exact HB.out | apply below_alloc | apply pw_below_drewN | apply below_drew1 | refine below_set ?_ (IsS62.ge HI0.out)) | exact HB.out)); rintro e w46 ⟨rfl, hi, hb, hk⟩; refine ⟨_, rfl, ?_⟩; replace HO275 := Aside0.mk (Kd.R_mono (Kd.R_keep (IsS62.apart (show IsS62 w0 _ g s0_0 t277 t278 from z2) z20 (by decide)) hk (fun _ h => h.2)) (fun _ h => h.1)); replace HO282 := Aside0.mk (Kd.R_mono (Kd.R_keep (IsS62.apart (show IsS62 w0 _ g s0_0 t277 t278 from z2) z27 (by decide)) hk (fun _ h => h.2)) (fun _ h => h.1)); replace HK := Aside0.mk (KeepBut.trans z1 hk (.inl rfl)); replace HB := Aside0.mk (hb); replace HI0 := Aside0.mk (hi); (try clear hb); (try clear hk); (try clear hi); obtain ⟨Ao47, co47, eo47⟩ := Kd.R_slice HO282.out; subst eo47; have p286 : 0 ≤ (t283 : Int) := of_decide_eq_true z3; have q286 : t283 < (y280.length : Int) := of_decide_eq_true z3; obtain ⟨ad286, e286, hx286_0⟩ := Kd.at_string (Kd.R_reads' HO282.out).2.2 t283 p286 q286; cases e286; replace p286 := eq_true p286; replace q286 := eq_true q286))
           have pi293 : (0 ≤ (t290 : Int)) = True := eq_true (of_decide_eq_true z3)
           have qi293 : (t290 < (y287.length : Int)) = True := eq_true (of_decide_eq_true z3)
           have n0_ := Aside0.mk (Kd.R_drew HO275.out)
           have n1_ := Aside0.mk (Kd.R_drew HO282.out)
           have n2_ := Aside0.mk (IsS62.drew HI0.out)
           have n3_ := Aside0.mk (keep_drew HK.out)
           have n4_ := Aside0.mk (below_drew1 HB.out)
           clear HO275
           clear HO282
           clear HI0
           clear HK
           clear HB
           have HO275 := n0_
           have HO282 := n1_
           have HI0 := n2_
           have HK := n3_
           have HB := n4_
           clear n0_ n1_ n2_ n3_ n4_
           refine start_ (n := 11) (S := fun w' => True) (ds := []) #[false, false, false, false, false, false, false, false, false, false, false] (by kernel_rfl) rfl rfl trivial (fun hHeld => ?_); refine with_tabW spec_l7url.tab3 spec_l7url.bits3 (fun HT_ HW_ => ?_)
           generalize w46.drew = w48 at HO275 HO282 HI0 HK HB hHeld ⊢
           refine pz 0 16 ?_
           refine pz 2 18 ?_
           refine pz 7 23 ?_
           refine inv_at [1, 3, 4, 5, 6, 8, 9, 10] (fun a0_ b a w' => ∃ (v288 : Value) (adz_v288 : Addr) (m4_ : Value), a = putSel a0_ b [(1, 17, v288), (3, 19, .int .i64 t290), (4, 20, m4_), (5, 21, .string (rdOf ByteArray.empty y287 t290)), (6, 22, .string (((rdOf ByteArray.empty y273 t276) ++ (rdOf ByteArray.empty y280 t283)) ++ (rdOf ByteArray.empty y287 t290))), (8, 24, .string t294), (9, 25, .string ((((rdOf ByteArray.empty y273 t276) ++ (rdOf ByteArray.empty y280 t283)) ++ (rdOf ByteArray.empty y287 t290)) ++ t294)), (10, 3, .string ((((rdOf ByteArray.empty y273 t276) ++ (rdOf ByteArray.empty y280 t283)) ++ (rdOf ByteArray.empty y287 t290)) ++ t294))] ∧ (Kd.R Kd.string 9 w' w.heap.size (fun k_ => some k_ ≠ (.slice (some ad286) y280.length co47 : Value).ownBlock) (.slice (some ad279) y273.length co43) y273) ∧ (Kd.R Kd.string 9 w' w.heap.size (fun k_ => some k_ ≠ (.slice (some ad279) y273.length co43 : Value).ownBlock) (.slice (some ad286) y280.length co47) y280) ∧ (b 3 = false → IsS62 w0 w' g s0_0 t284 t285) ∧ (KeepBut w w' g none) ∧ (Below w0.heap.size w0 w') ∧ (b 1 = true → Kd.R Kd.string 9 w' w.heap.size (fun k_ => some k_ ≠ (.slice (some ad279) y273.length co43 : Value).ownBlock ∧ some k_ ≠ (.slice (some ad286) y280.length co47 : Value).ownBlock) v288 y287) ∧ (b 1 = true → ∃ c_, (v288 : Value) = .slice (some adz_v288) y287.length c_) ∧ (b 3 = true → b 8 = false → IsS62 w0 w' g s0_0 t291 t292) ∧ (b 8 = true → IsS62 w0 w' g s0_0 t295 t296) ∧ (b 4 = true → (m4_ : Value) = .pointer (some (adz_v288.add (t290).toNat)))) HT_.out HW_.out (by kernel_rfl) (by kernel_rfl) ?_ ?_ ?_
           ·exact ⟨.bool false, ⟨0, 0, none⟩, .bool false, by simp only [putSel, Bool.false_eq_true, if_false], Kd.R_mono HO275.out (fun _ hk => by first | exact hk | exact hk.2), Kd.R_mono HO282.out (fun _ hk => by first | exact hk | exact hk.2), fun _ => HI0.out, HK.out, HB.out, fun h_ => absurd h_ (by decide), fun h_ => absurd h_ (by decide), fun h_ => absurd h_ (by decide), fun h_ => absurd h_ (by decide), fun h_ => absurd h_ (by decide)⟩
           ·skip
            clear HB HI0 HK HO275 HO282
            refine steps_cons ?_ ?_
            ·rintro b a w' ⟨v288, adz_v288, m4_, ha, Q_HO275, Q_HO282, Q_HI0, Q_HK, Q_HB, Q_HO289, Q_HA_HO289, Q_HI0_e3, Q_HI0_e8, Q_X4_⟩ hb_ hon hoff
             refine ⟨_, rfl, fun K hK => ?_⟩
             replace ha := Aside0.mk ha
             have HO275 := Aside0.mk Q_HO275
             have HO282 := Aside0.mk Q_HO282
             have HK := Aside0.mk Q_HK
             have HB := Aside0.mk Q_HB
             refine Kd.R_lit_step Kd.string _ 9 ?hg (N := 17) ?hd (xs := ([(⟨#[]⟩ : ByteArray), (⟨#[]⟩ : ByteArray), (⟨#[58, 56, 48]⟩ : ByteArray), (⟨#[58, 56, 48, 56, 48]⟩ : ByteArray), (⟨#[58, 54, 53, 53, 51, 53]⟩ : ByteArray)] : List ByteArray)) (inner := [.string (⟨#[]⟩ : ByteArray), .string (⟨#[]⟩ : ByteArray), .string (⟨#[58, 56, 48]⟩ : ByteArray), .string (⟨#[58, 56, 48, 56, 48]⟩ : ByteArray), .string (⟨#[58, 54, 53, 53, 51, 53]⟩ : ByteArray)]) (ok := fun _ => True) (okp := fun _ => True) ?hr ?hp (fun _ hk => hk) trivial (Below.refl _ _) (Nat.le_refl _) (by simp) ?_; (case hd => rfl); (case hg => rfl); (case hr => first | (go_simp; done) | (go_simp; rfl)); (case hp => exact (Reps.one (show Kd.M Kd.string _ _ _ (⟨#[]⟩ : ByteArray) [.string (⟨#[]⟩ : ByteArray)] from rfl) (Reps.one (show Kd.M Kd.string _ _ _ (⟨#[]⟩ : ByteArray) [.string (⟨#[]⟩ : ByteArray)] from rfl) (Reps.one (show Kd.M Kd.string _ _ _ (⟨#[58, 56, 48]⟩ : ByteArray) [.string (⟨#[58, 56, 48]⟩ : ByteArray)] from rfl) (Reps.one (show Kd.M Kd.string _ _ _ (⟨#[58, 56, 48, 56, 48]⟩ : ByteArray) [.string (⟨#[58, 56, 48, 56, 48]⟩ : ByteArray)] from rfl) (Reps.one (show Kd.M Kd.string _ _ _ (⟨#[58, 54, 53, 53, 51, 53]⟩ : ByteArray) [.string (⟨#[58, 54, 53, 53, 51, 53]⟩ : ByteArray)] from rfl) (Reps.none _ _)))))))
             intro v288 w49 ho50 hb hg_ hnew_
             clear hg_ hnew_
             (first | rw [← Ny287.out] at ho50 | (simp only [Int.reduceToNat] at ho50; rw [← Ny287.out] at ho50))
             have n0_ := Aside0.mk (Kd.R_elder' z20 (Kd.R_base ho50) hb)
             have n1_ := Aside0.mk (Kd.R_elder' z27 (Kd.R_base ho50) hb)
             have n2_ := Aside0.mk (Kd.R_lower (Kd.R_new' (Kd.R_new' ho50 (Kd.R_lt z20)) (Kd.R_lt z27)) (keep_size (w := w) (g := g) (row := none) z1))
             have n4_ := Aside0.mk (KeepBut.trans z1 (KeepBut.of_below hb g none) (.inl rfl))
             have n5_ := Aside0.mk (below_step z0 hb)
             have z_HI0 := fun (h0_ : b 3 = false) => (show IsS62 w0 w49 g s0_0 t284 t285 from by first | exact (IsS62.below z89 hb))
             have z_HI0_e3 := fun (h0_ : b 3 = true) (h1_ : b 8 = false) => (show IsS62 w0 w49 g s0_0 t291 t292 from by first | exact (IsS62.below z87 hb))
             have z_HI0_e8 := fun (h0_ : b 8 = true) => (show IsS62 w0 w49 g s0_0 t295 t296 from by first | exact (IsS62.below z88 hb))
             clear HO275
             clear HO282
             clear HK
             clear HB
             have HO275 := n0_
             have HO282 := n1_
             have HO289 := n2_
             have HK := n4_
             have HB := n5_
             clear n0_ n1_ n2_ n4_ n5_
             clear hb ho50
             obtain ⟨Ao51, co51, eo51⟩ := Kd.R_slice HO289.out
             subst eo51
             obtain ⟨ado51, fo51, _⟩ := Kd.at_string (Kd.R_reads' HO289.out).2.2 0 (by decide) (by rw [Ny287.out]; simp)
             cases fo51
             refine hK.out _ _ ⟨.slice (some ado51) y287.length co51, ado51, m4_, (by rw [ha.out]; exact putSel_upk 0 hb_ rfl rfl rfl), z113, z111, z_HI0, z1, z0, fun _ => z109, fun _ => ⟨_, rfl⟩, z_HI0_e3, z_HI0_e8, fun h0_ => absurd ((hoff 4 (by kernel_rfl)).symm.trans h0_) (by decide)⟩
            refine steps_cons ?_ ?_
            ·rintro b a w' ⟨v288, adz_v288, m4_, ha, Q_HO275, Q_HO282, Q_HI0, Q_HK, Q_HB, Q_HO289, Q_HA_HO289, Q_HI0_e3, Q_HI0_e8, Q_X4_⟩ hb_ hon hoff
             refine ⟨_, rfl, fun K hK => ?_⟩
             have e18 : a.tmps[18]? = some (.pointer (some ⟨g, 0, none⟩)) := z85
             replace ha := Aside0.mk ha
             have HO275 := Aside0.mk Q_HO275
             have HO282 := Aside0.mk Q_HO282
             have HI0 := Aside0.mk (Q_HI0 hb_)
             have HK := Aside0.mk Q_HK
             have HB := Aside0.mk Q_HB
             refine goes_ Tryz.func44 (by kernel_rfl) rfl #[.pointer (some ⟨g, 0, none⟩), .int .i64 5] (by rfl) rfl rfl z69 ?_
             with_reducible refine (spec_l1Below.calls g s0_0 t284 t285 5 t290 t291 t292 w0 _ ?side1 ?side2 A9.out).mono ?_
             (case side1 => repeat (first | (with_reducible first | exact HI0.out | apply IsS62.alloc | apply IsS62.drewN | apply IsS62.drew | apply IsS62.set_1 | apply IsS62.set_2) | exact HI0.out))
             (case side2 => repeat (first | (with_reducible first | exact HB.out | apply below_alloc | apply pw_below_drewN | apply below_drew1 | refine below_set ?_ (IsS62.ge HI0.out)) | exact HB.out))
             rintro e w49 ⟨rfl, hi, hb, hk⟩
             refine ⟨_, rfl, ?_⟩
             have n0_ := Aside0.mk (Kd.R_mono (Kd.R_keep (IsS62.apart (show IsS62 w0 _ g s0_0 t284 t285 from z2) z20 (by decide)) hk (fun _ h => h.2)) (fun _ h => h.1))
             have n1_ := Aside0.mk (Kd.R_mono (Kd.R_keep (IsS62.apart (show IsS62 w0 _ g s0_0 t284 t285 from z2) z27 (by decide)) hk (fun _ h => h.2)) (fun _ h => h.1))
             have n2_ := Aside0.mk (KeepBut.trans z1 hk (.inl rfl))
             have n3_ := Aside0.mk (hb)
             have n4_ := Aside0.mk (hi)
             have z_HO289 := fun (h0_ : b 1 = true) => (show Kd.R Kd.string 9 w49 w.heap.size (fun k_ => some k_ ≠ (.slice (some ad279) y273.length co43 : Value).ownBlock ∧ some k_ ≠ (.slice (some ad286) y280.length co47 : Value).ownBlock) v288 y287 from z106)
             clear HO275
             clear HO282
             clear HK
             clear HB
             clear HI0
             have HO275 := n0_
             have HO282 := n1_
             have HK := n2_
             have HB := n3_
             have HI0 := n4_
             clear n0_ n1_ n2_ n3_ n4_
             (try clear hb)
             (try clear hb2)
             (try clear hk)
             (try clear hi)
             refine hK.out _ _ ⟨v288, adz_v288, m4_, (by rw [ha.out]; exact putSel_upk 1 hb_ rfl rfl rfl), z112, z110, fun h0_ => absurd ((up_self b 3).symm.trans h0_) (by decide), z1, z6, z_HO289, Q_HA_HO289, fun _ _ => z2, fun h0_ => absurd ((hoff 8 (by kernel_rfl)).symm.trans h0_) (by decide), fun h0_ => absurd ((hoff 4 (by kernel_rfl)).symm.trans h0_) (by decide)⟩
            refine steps_cons ?_ ?_
            ·rintro b a w' ⟨v288, adz_v288, m4_, ha, Q_HO275, Q_HO282, Q_HI0, Q_HK, Q_HB, Q_HO289, Q_HA_HO289, Q_HI0_e3, Q_HI0_e8, Q_X4_⟩ hb_ hon hoff
             refine ⟨_, rfl, fun K hK => ?_⟩
             have e17 : a.tmps[17]? = some (v288) := by rw [ha]; exact putSel_on (e := (1, 17, v288)) 0 rfl rfl (hon 1 (by kernel_rfl)) rfl
             have e19 : a.tmps[19]? = some (.int .i64 t290) := by rw [ha]; exact putSel_on (e := (3, 19, .int .i64 t290)) 1 rfl rfl (hon 3 (by kernel_rfl)) rfl
             replace ha := Aside0.mk ha
             have HO275 := Aside0.mk Q_HO275
             have HO282 := Aside0.mk Q_HO282
             have HK := Aside0.mk Q_HK
             have HB := Aside0.mk Q_HB
             have HO289 := Aside0.mk (Q_HO289 (hon 1 (by kernel_rfl)))
             have HA_HO289 := Aside0.mk (Q_HA_HO289 (hon 1 (by kernel_rfl)))
             obtain ⟨c_, hv_⟩ := HA_HO289.out
             rw [hv_] at e17
             refine value_ (w1 := w') (v := .pointer (some (adz_v288.add (t290).toNat))) (by rfl) rfl ?_ ?_
             ·go_simp
              (try simp only [i64_w])
              try rfl
             refine hK.out _ _ ⟨v288, adz_v288, (.pointer (some (adz_v288.add (t290).toNat))), (by rw [ha.out]; exact putSel_upk 2 hb_ rfl rfl rfl), Q_HO275, Q_HO282, fun h0_ => absurd ((hon 3 (by kernel_rfl)).symm.trans h0_) (by decide), Q_HK, Q_HB, Q_HO289, Q_HA_HO289, Q_HI0_e3, Q_HI0_e8, fun _ => rfl⟩
            refine steps_cons ?_ ?_
            ·rintro b a w' ⟨v288, adz_v288, m4_, ha, Q_HO275, Q_HO282, Q_HI0, Q_HK, Q_HB, Q_HO289, Q_HA_HO289, Q_HI0_e3, Q_HI0_e8, Q_X4_⟩ hb_ hon hoff
             refine ⟨_, rfl, fun K hK => ?_⟩
             have e20 : a.tmps[20]? = some (m4_) := by rw [ha]; exact putSel_on (e := (4, 20, m4_)) 2 rfl rfl (hon 4 (by kernel_rfl)) rfl
             rw [Q_X4_ (hon 4 (by kernel_rfl))] at e20
             replace ha := Aside0.mk ha
             have HO275 := Aside0.mk Q_HO275
             have HO282 := Aside0.mk Q_HO282
             have HK := Aside0.mk Q_HK
             have HB := Aside0.mk Q_HB
             have HO289 := Aside0.mk (Q_HO289 (hon 1 (by kernel_rfl)))
             have HA_HO289 := Aside0.mk (Q_HA_HO289 (hon 1 (by kernel_rfl)))
             obtain ⟨c_, hv_⟩ := HA_HO289.out
             have hF_ := HO289.out
             rw [hv_] at hF_
             obtain ⟨ad_, ea_, hx_⟩ := Kd.at_string (Kd.R_reads' hF_).2.2 t290 (of_eq_true pi293) (of_eq_true qi293)
             cases ea_
             refine value_ (w1 := w') (v := .string (rdOf ByteArray.empty y287 t290)) (by rfl) rfl ?_ ?_
             ·go_simp
              (try simp only [i64_w])
              try rfl
             refine hK.out _ _ ⟨v288, adz_v288, m4_, (by rw [ha.out]; exact putSel_upk 3 hb_ rfl rfl rfl), Q_HO275, Q_HO282, fun h0_ => absurd ((hon 3 (by kernel_rfl)).symm.trans h0_) (by decide), Q_HK, Q_HB, Q_HO289, Q_HA_HO289, Q_HI0_e3, Q_HI0_e8, Q_X4_⟩
            refine steps_cons ?_ ?_
            ·rintro b a w' ⟨v288, adz_v288, m4_, ha, Q_HO275, Q_HO282, Q_HI0, Q_HK, Q_HB, Q_HO289, Q_HA_HO289, Q_HI0_e3, Q_HI0_e8, Q_X4_⟩ hb_ hon hoff
             refine ⟨_, rfl, fun K hK => ?_⟩
             have e16 : a.tmps[16]? = some (.string ((rdOf ByteArray.empty y273 t276) ++ (rdOf ByteArray.empty y280 t283))) := z85
             have e21 : a.tmps[21]? = some (.string (rdOf ByteArray.empty y287 t290)) := by rw [ha]; exact putSel_on (e := (5, 21, .string (rdOf ByteArray.empty y287 t290))) 3 rfl rfl (hon 5 (by kernel_rfl)) rfl
             replace ha := Aside0.mk ha
             have HO275 := Aside0.mk Q_HO275
             have HO282 := Aside0.mk Q_HO282
             have HK := Aside0.mk Q_HK
             have HB := Aside0.mk Q_HB
             have HO289 := Aside0.mk (Q_HO289 (hon 1 (by kernel_rfl)))
             have HA_HO289 := Aside0.mk (Q_HA_HO289 (hon 1 (by kernel_rfl)))
             refine value_ (w1 := w') (v := .string (((rdOf ByteArray.empty y273 t276) ++ (rdOf ByteArray.empty y280 t283)) ++ (rdOf ByteArray.empty y287 t290))) (by rfl) rfl ?_ ?_
             ·go_simp
              (try simp only [i64_w])
              try rfl
             refine hK.out _ _ ⟨v288, adz_v288, m4_, (by rw [ha.out]; exact putSel_upk 4 hb_ rfl rfl rfl), Q_HO275, Q_HO282, fun h0_ => absurd ((hon 3 (by kernel_rfl)).symm.trans h0_) (by decide), Q_HK, Q_HB, Q_HO289, Q_HA_HO289, Q_HI0_e3, Q_HI0_e8, Q_X4_⟩
            refine steps_cons ?_ ?_
            ·rintro b a w' ⟨v288, adz_v288, m4_, ha, Q_HO275, Q_HO282, Q_HI0, Q_HK, Q_HB, Q_HO289, Q_HA_HO289, Q_HI0_e3, Q_HI0_e8, Q_X4_⟩ hb_ hon hoff
             refine ⟨_, rfl, fun K hK => ?_⟩
             have e23 : a.tmps[23]? = some (.pointer (some ⟨g, 0, none⟩)) := z85
             replace ha := Aside0.mk ha
             have HO275 := Aside0.mk Q_HO275
             have HO282 := Aside0.mk Q_HO282
             have HK := Aside0.mk Q_HK
             have HB := Aside0.mk Q_HB
             have HI0 := Aside0.mk (Q_HI0_e3 (hon 3 (by kernel_rfl)) hb_)
             refine goes_ Tryz.func47 (by kernel_rfl) rfl #[.pointer (some ⟨g, 0, none⟩)] (by rfl) rfl rfl z68 ?_
             with_reducible refine (spec_l7path.calls k g s0_0 t291 t292 t294 t295 t296 w0 _ ?side1 ?side2 A13.out).mono ?_
             (case side1 => repeat (first | (with_reducible first | exact HI0.out | apply IsS62.alloc | apply IsS62.drewN | apply IsS62.drew | apply IsS62.set_1 | apply IsS62.set_2) | exact HI0.out))
             (case side2 => repeat (first | (with_reducible first | exact HB.out | apply below_alloc | apply pw_below_drewN | apply below_drew1 | refine below_set ?_ (IsS62.ge HI0.out)) | exact HB.out))
             rintro e w51 ⟨rfl, hi, hb, hk⟩
             refine ⟨_, rfl, ?_⟩
             have n0_ := Aside0.mk (Kd.R_mono (Kd.R_keep (IsS62.apart (show IsS62 w0 _ g s0_0 t291 t292 from z2) z20 (by decide)) hk (fun _ h => h.2)) (fun _ h => h.1))
             have n1_ := Aside0.mk (Kd.R_mono (Kd.R_keep (IsS62.apart (show IsS62 w0 _ g s0_0 t291 t292 from z2) z27 (by decide)) hk (fun _ h => h.2)) (fun _ h => h.1))
             have n2_ := Aside0.mk (KeepBut.trans z1 hk (.inl rfl))
             have n3_ := Aside0.mk (hb)
             have n4_ := Aside0.mk (hi)
             have z_HO289 := fun (h0_ : b 1 = true) => (show Kd.R Kd.string 9 w51 w.heap.size (fun k_ => some k_ ≠ (.slice (some ad279) y273.length co43 : Value).ownBlock ∧ some k_ ≠ (.slice (some ad286) y280.length co47 : Value).ownBlock) v288 y287 from z105)
             clear HO275
             clear HO282
             clear HK
             clear HB
             clear HI0
             have HO275 := n0_
             have HO282 := n1_
             have HK := n2_
             have HB := n3_
             have HI0 := n4_
             clear n0_ n1_ n2_ n3_ n4_
             (try clear hb)
             (try clear hb2)
             (try clear hk)
             (try clear hi)
             refine hK.out _ _ ⟨v288, adz_v288, m4_, (by rw [ha.out]; exact putSel_upk 5 hb_ rfl rfl rfl), z20, z27, fun h0_ => absurd ((hon 3 (by kernel_rfl)).symm.trans h0_) (by decide), z1, z6, z_HO289, Q_HA_HO289, fun _ h1_ => absurd ((up_self b 8).symm.trans h1_) (by decide), fun _ => z2, Q_X4_⟩
            refine steps_cons ?_ ?_
            ·rintro b a w' ⟨v288, adz_v288, m4_, ha, Q_HO275, Q_HO282, Q_HI0, Q_HK, Q_HB, Q_HO289, Q_HA_HO289, Q_HI0_e3, Q_HI0_e8, Q_X4_⟩ hb_ hon hoff
             refine ⟨_, rfl, fun K hK => ?_⟩
             have e22 : a.tmps[22]? = some (.string (((rdOf ByteArray.empty y273 t276) ++ (rdOf ByteArray.empty y280 t283)) ++ (rdOf ByteArray.empty y287 t290))) := z86
             have e24 : a.tmps[24]? = some (.string t294) := by rw [ha]; exact putSel_on (e := (8, 24, .string t294)) 5 rfl rfl (hon 8 (by kernel_rfl)) rfl
             replace ha := Aside0.mk ha
             have HO275 := Aside0.mk Q_HO275
             have HO282 := Aside0.mk Q_HO282
             have HK := Aside0.mk Q_HK
             have HB := Aside0.mk Q_HB
             have HO289 := Aside0.mk (Q_HO289 (hon 1 (by kernel_rfl)))
             have HA_HO289 := Aside0.mk (Q_HA_HO289 (hon 1 (by kernel_rfl)))
             have HI0 := Aside0.mk (Q_HI0_e8 (hon 8 (by kernel_rfl)))
             refine value_ (w1 := w') (v := .string ((((rdOf ByteArray.empty y273 t276) ++ (rdOf ByteArray.empty y280 t283)) ++ (rdOf ByteArray.empty y287 t290)) ++ t294)) (by rfl) rfl ?_ ?_
             ·go_simp
              (try simp only [i64_w])
              try rfl
             refine hK.out _ _ ⟨v288, adz_v288, m4_, (by rw [ha.out]; exact putSel_upk 6 hb_ rfl rfl rfl), Q_HO275, Q_HO282, fun h0_ => absurd ((hon 3 (by kernel_rfl)).symm.trans h0_) (by decide), Q_HK, Q_HB, Q_HO289, Q_HA_HO289, fun _ h1_ => absurd ((hon 8 (by kernel_rfl)).symm.trans h1_) (by decide), Q_HI0_e8, Q_X4_⟩
            refine steps_cons ?_ ?_
            ·rintro b a w' ⟨v288, adz_v288, m4_, ha, Q_HO275, Q_HO282, Q_HI0, Q_HK, Q_HB, Q_HO289, Q_HA_HO289, Q_HI0_e3, Q_HI0_e8, Q_X4_⟩ hb_ hon hoff
             refine ⟨_, rfl, fun K hK => ?_⟩
             have e25 : a.tmps[25]? = some (.string ((((rdOf ByteArray.empty y273 t276) ++ (rdOf ByteArray.empty y280 t283)) ++ (rdOf ByteArray.empty y287 t290)) ++ t294)) := z84
             replace ha := Aside0.mk ha
             have HO275 := Aside0.mk Q_HO275
             have HO282 := Aside0.mk Q_HO282
             have HK := Aside0.mk Q_HK
             have HB := Aside0.mk Q_HB
             have HO289 := Aside0.mk (Q_HO289 (hon 1 (by kernel_rfl)))
             have HA_HO289 := Aside0.mk (Q_HA_HO289 (hon 1 (by kernel_rfl)))
             have HI0 := Aside0.mk (Q_HI0_e8 (hon 8 (by kernel_rfl)))
             refine value_ (w1 := w') (v := .string ((((rdOf ByteArray.empty y273 t276) ++ (rdOf ByteArray.empty y280 t283)) ++ (rdOf ByteArray.empty y287 t290)) ++ t294)) (by rfl) rfl ?_ ?_
             ·go_simp
              (try simp only [i64_w])
              try rfl
             refine hK.out _ _ ⟨v288, adz_v288, m4_, (by rw [ha.out]; exact putSel_upk 7 hb_ rfl rfl rfl), Q_HO275, Q_HO282, fun h0_ => absurd ((hon 3 (by kernel_rfl)).symm.trans h0_) (by decide), Q_HK, Q_HB, Q_HO289, Q_HA_HO289, fun _ h1_ => absurd ((hon 8 (by kernel_rfl)).symm.trans h1_) (by decide), Q_HI0_e8, Q_X4_⟩
            exact steps_nil
           rintro b a w54 hall ⟨v288, adz_v288, m4_, ha, Q_HO275, Q_HO282, Q_HI0, Q_HK, Q_HB, Q_HO289, Q_HA_HO289, Q_HI0_e3, Q_HI0_e8, Q_X4_⟩
           clear HB HI0 HK HO275 HO282
           have hb1_ := hall 1 (by kernel_rfl)
           have hb3_ := hall 3 (by kernel_rfl)
           have hb4_ := hall 4 (by kernel_rfl)
           have hb5_ := hall 5 (by kernel_rfl)
           have hb6_ := hall 6 (by kernel_rfl)
           have hb8_ := hall 8 (by kernel_rfl)
           have hb9_ := hall 9 (by kernel_rfl)
           have hb10_ := hall 10 (by kernel_rfl)
           subst ha
           obtain rfl := Q_X4_ hb4_
           simp only [putSel, hb1_, hb3_, hb4_, hb5_, hb6_, hb8_, hb9_, hb10_, if_true, Act.put, List.setIfInBounds_toArray, List.set_cons_zero, List.set_cons_succ]
           have HO275 := Aside0.mk Q_HO275
           clear Q_HO275
           have HO282 := Aside0.mk Q_HO282
           clear Q_HO282
           clear Q_HI0
           have HK := Aside0.mk Q_HK
           clear Q_HK
           have HB := Aside0.mk Q_HB
           clear Q_HB
           have HO289 := Aside0.mk (Q_HO289 hb1_)
           clear Q_HO289
           have HA_HO289 := Aside0.mk (Q_HA_HO289 hb1_)
           clear Q_HA_HO289
           clear Q_HI0_e3
           have HI0 := Aside0.mk (Q_HI0_e8 hb8_)
           clear Q_HI0_e8
           clear hall hb1_ hb3_ hb4_ hb5_ hb6_ hb8_ hb9_ hb10_
           obtain ⟨co55, eo55⟩ := HA_HO289.out
           clear HA_HO289
           subst eo55
           try go_wp2_with (first | ((with_reducible refine gate_callee (f := 43) rfl ?_); refine goesQ_ 27 Tryz.func43 #[.pointer (some ⟨g, 0, none⟩), .int .i64 3] ?_; (with_reducible refine (spec_l1Once.calls g s0_0 t295 t296 3 false t298 t299 w0 _ ?side1 ?side2 A15.out).mono ?_); (case side1 => repeat (first | (with_reducible first | exact HI0.out | apply IsS62.alloc | apply IsS62.drewN | apply IsS62.drew | apply IsS62.set_1 | apply IsS62.set_2) | exact HI0.out)); (case side2 => repeat (first | (with_reducible first | exact HB.out | apply below_alloc | apply pw_below_drewN | apply below_drew1 | refine below_set ?_ (IsS62.ge HI0.out)) | exact HB.out)); rintro e w56 ⟨rfl, hi, hb, hk⟩; refine ⟨_, rfl, ?_⟩; replace HO275 := Aside0.mk (Kd.R_mono (Kd.R_keep (IsS62.apart (show IsS62 w0 _ g s0_0 t295 t296 from z2) z20 (by decide)) hk (fun _ h => h.2)) (fun _ h => h.1)); replace HO282 := Aside0.mk (Kd.R_mono (Kd.R_keep (IsS62.apart (show IsS62 w0 _ g s0_0 t295 t296 from z2) z27 (by decide)) hk (fun _ h => h.2)) (fun _ h => h.1)); replace HO289 := Aside0.mk (Kd.R_mono (Kd.R_keep (IsS62.apart (show IsS62 w0 _ g s0_0 t295 t296 from z2) z65 (by decide)) hk (fun _ h => h.2)) (fun _ h => h.1)); replace HK := Aside0.mk (KeepBut.trans z1 hk (.inl rfl)); replace HB := Aside0.mk (hb); replace HI0 := Aside0.mk (hi); (try clear hb); (try clear hk); (try clear hi)))
           go_ret
           exact ⟨z4, z2, z6, z1⟩
         ·rw [if_neg c14] at H
          exact absurd H (by simp)
        ·rw [if_neg c12] at H
         exact absurd H (by simp)
       ·rw [if_neg c11] at H
        exact absurd H (by simp)
      ·rw [if_neg c10] at H
       exact absurd H (by simp)
     ·rw [if_neg c8] at H
      exact absurd H (by simp)
    ·rw [if_neg c7] at H
     exact absurd H (by simp)
   ·rw [if_neg c6] at H
    exact absurd H (by simp)
  ·rw [if_neg c4] at H
   exact absurd H (by simp)
 ·rw [if_neg c3] at H
  exact absurd H (by simp)

end Go.Proofs.YtkkolioolgpljaaGreatDoor.GFnCanons
