-- Laid by gen.py of this session (over the kit's printing program): what the law FnCleans reaches, as Lean functions, and that Go comes to just that.
import Derived.Test.YtcplgnikihjilaaGreatDoorGFnCleansx0
import Derived.Test.YtcplgnikihjilaaGreatDoorGFnCleansx1
import Derived.Test.YtcplgnikihjilaaGreatDoorGFnCleansx2
import Derived.Test.YtcplgnikihjilaaGreatDoorZFnCleans
namespace Go.Proofs.YtcplgnikihjilaaGreatDoor.GFnCleans
open Go.RowKit Go.Proofs.YtcplgnikihjilaaGreatDoorW.PrintWords Go.Proofs.YtcplgnikihjilaaGreatDoorW.PrintLast Go.Proofs.YtcplgnikihjilaaGreatDoorW.PrintMore Go.Proofs.YtcplgnikihjilaaGreatDoorW.Zs
attribute [local go_sem] max2_int min2_int max_two min_two max_three min_three max_four min_four   -- for this text's walks alone
set_option linter.unusedVariables false
set_option linter.unusedSimpArgs false

/-! ### spec_DrawCleanPath: function 18 -/
def spec_DrawCleanPath.f (k : Nat) (l0 : List Int) : Option (ByteArray) := (spec_l1New.f k l0).bind fun bt136 => ((spec_l7path.f k bt136.1 bt136.2.1 bt136.2.2).bind fun bt140 => ((spec_l1Below.f bt136.1 bt140.2.1 bt140.2.2 9).bind fun bt143 => (if bt143.1 = 0 then ((spec_l1bend.f bt136.1 bt143.2.1 bt143.2.2 bt140.1).bind fun bt146 => (some bt146.1)) else (if bt143.1 = 1 then ((spec_l1Below.f bt136.1 bt143.2.1 bt143.2.2 2).bind fun bt149 => ((spec_l1of.f k bt136.1 bt149.2.1 bt149.2.2 (wrap64 (199 + bt149.1)) (⟨#[97, 46, 47]⟩ : ByteArray)).bind fun bt152 => (if 1 + bt152.1.size ≤ 9223372036854775807 then (some ((⟨#[47]⟩ : ByteArray) ++ bt152.1)) else (none)))) else (some bt140.1)))))
theorem spec_DrawCleanPath.mono : ∀ a0 k, LeO (spec_DrawCleanPath.f k a0) (spec_DrawCleanPath.f (k + 1) a0) := by
 intro a0 k
 unfold spec_DrawCleanPath.f
 repeat' first | (with_reducible first | exact spec_l1New.mono _ _ | exact spec_l1of.mono _ _ _ _ _ _ | exact spec_l7path.mono _ _ _ _ | exact LeO.refl _ | exact LeO.none _ | refine LeO.ite ?_ ?_ | refine LeO.bind ?_ (fun _ => ?_)) | exact spec_l1New.mono _ _ | exact spec_l1of.mono _ _ _ _ _ _ | exact spec_l7path.mono _ _ _ _ | exact LeO.none _ | refine LeO.ite ?_ ?_ | refine LeO.bind ?_ (fun _ => ?_)
set_option maxHeartbeats 8000000 in
set_option maxRecDepth 100000 in
theorem spec_DrawCleanPath.calls (k : Nat) (A0 : Option Addr) (c0 : Nat) (l0 : List Int) (r : ByteArray) (w : World) (hr0 : Kd.C (Kd.int .u8) w A0 l0.length l0) (hc0 : l0.length ≤ c0) (h : spec_DrawCleanPath.f k l0 = some r) :
  Calls Tryz.prog 18 #[.slice A0 l0.length c0] w fun e w' => e = .returned (.string r) ∧ Below w.heap.size w w' := by
 have HR0 := Aside0.mk hr0
 have HC0 := Aside0.mk hc0
 clear hr0 hc0
 have HB := Aside0.mk (Below.refl w.heap.size w)
 have H : ((spec_l1New.f k l0).bind fun bt136 => ((spec_l7path.f k bt136.1 bt136.2.1 bt136.2.2).bind fun bt140 => ((spec_l1Below.f bt136.1 bt140.2.1 bt140.2.2 9).bind fun bt143 => (if bt143.1 = 0 then ((spec_l1bend.f bt136.1 bt143.2.1 bt143.2.2 bt140.1).bind fun bt146 => (some bt146.1)) else (if bt143.1 = 1 then ((spec_l1Below.f bt136.1 bt143.2.1 bt143.2.2 2).bind fun bt149 => ((spec_l1of.f k bt136.1 bt149.2.1 bt149.2.2 (wrap64 (199 + bt149.1)) (⟨#[97, 46, 47]⟩ : ByteArray)).bind fun bt152 => (if 1 + bt152.1.size ≤ 9223372036854775807 then (some ((⟨#[47]⟩ : ByteArray) ++ bt152.1)) else (none)))) else (some bt140.1)))))) = some r := h
 clear h
 replace H := Option.bind_eq_some_iff.mp H
 obtain ⟨⟨t136, t137, t138⟩, A20, H⟩ := H
 try dsimp only at H
 have A2 := Aside0.mk A20
 clear A20
 replace H := Option.bind_eq_some_iff.mp H
 obtain ⟨⟨t140, t141, t142⟩, A30, H⟩ := H
 try dsimp only at H
 have A3 := Aside0.mk A30
 clear A30
 replace H := Option.bind_eq_some_iff.mp H
 obtain ⟨⟨t143, t144, t145⟩, A40, H⟩ := H
 try dsimp only at H
 have A4 := Aside0.mk A40
 clear A40
 by_cases c5 : t143 = 0
 ·rw [if_pos c5] at H
  have c5b0 : (t143 == 0) = true := beq_iff_eq.mpr c5
  have c5b1 : (t143 != 0) = false := bne_eq_false_iff_eq.mpr c5
  clear c5
  replace H := Option.bind_eq_some_iff.mp H
  obtain ⟨⟨t146, t147, t148⟩, A60, H⟩ := H
  try dsimp only at H
  have A6 := Aside0.mk A60
  clear A60
  obtain rfl := Option.some.inj H
  go_enter Tryz.func18, Tryz.ntmps18
  go_wp2_with (first | ((with_reducible refine gate_callee (f := 52) rfl ?_); refine goesQ_ 6 Tryz.func52 #[.slice A0 l0.length c0] ?_; (with_reducible refine (spec_l1New.calls k _ _ l0 t136 t137 t138 w _ ?side1 ?side2 ?side3 A2.out).mono ?_); (case side1 => repeat (first | (with_reducible first | exact HB.out | apply below_alloc | apply pw_below_drewN | apply below_drew1) | exact HB.out)); (case side2 => exact HR0.out); (case side3 => exact HC0.out); rintro e w7 ⟨g139, rfl, hi, hb, hb2⟩; refine ⟨_, rfl, ?_⟩; replace HB := Aside0.mk (hb); have HI139 := Aside0.mk (hi); (try clear hb); (try clear hb2); (try clear hi)) | ((with_reducible refine gate_callee (f := 53) rfl ?_); refine goesQ_ 8 Tryz.func53 #[.pointer (some ⟨g139, 0, none⟩)] ?_; (with_reducible refine (spec_l7path.calls k g139 t136 t137 t138 t140 t141 t142 w _ ?side1 ?side2 A3.out).mono ?_); (case side1 => repeat (first | (with_reducible first | exact HI139.out | apply IsS106.alloc | apply IsS106.drewN | apply IsS106.drew | apply IsS106.set_1 | apply IsS106.set_2) | exact HI139.out)); (case side2 => repeat (first | (with_reducible first | exact HB.out | apply below_alloc | apply pw_below_drewN | apply below_drew1 | refine below_set ?_ (IsS106.ge HI139.out)) | exact HB.out)); rintro e w8 ⟨rfl, hi, hb, hk⟩; refine ⟨_, rfl, ?_⟩; replace HB := Aside0.mk (hb); replace HI139 := Aside0.mk (hi); (try clear hb); (try clear hk); (try clear hi)) | ((with_reducible refine gate_callee (f := 54) rfl ?_); refine goesQ_ 10 Tryz.func54 #[.pointer (some ⟨g139, 0, none⟩), .int .i64 9] ?_; (with_reducible refine (spec_l1Below.calls g139 t136 t141 t142 9 t143 t144 t145 w _ ?side1 ?side2 A4.out).mono ?_); (case side1 => repeat (first | (with_reducible first | exact HI139.out | apply IsS106.alloc | apply IsS106.drewN | apply IsS106.drew | apply IsS106.set_1 | apply IsS106.set_2) | exact HI139.out)); (case side2 => repeat (first | (with_reducible first | exact HB.out | apply below_alloc | apply pw_below_drewN | apply below_drew1 | refine below_set ?_ (IsS106.ge HI139.out)) | exact HB.out)); rintro e w9 ⟨rfl, hi, hb, hk⟩; refine ⟨_, rfl, ?_⟩; replace HB := Aside0.mk (hb); replace HI139 := Aside0.mk (hi); (try clear hb); (try clear hk); (try clear hi)) | ((with_reducible refine gate_callee (f := 55) rfl ?_); refine goesQ_ 15 Tryz.func55 #[.pointer (some ⟨g139, 0, none⟩), .string t140] ?_; (with_reducible refine (spec_l1bend.calls g139 t136 t144 t145 t140 t146 t147 t148 w _ ?side1 ?side2 A6.out).mono ?_); (case side1 => repeat (first | (with_reducible first | exact HI139.out | apply IsS106.alloc | apply IsS106.drewN | apply IsS106.drew | apply IsS106.set_1 | apply IsS106.set_2) | exact HI139.out)); (case side2 => repeat (first | (with_reducible first | exact HB.out | apply below_alloc | apply pw_below_drewN | apply below_drew1 | refine below_set ?_ (IsS106.ge HI139.out)) | exact HB.out)); rintro e w10 ⟨rfl, hi, hb, hk⟩; refine ⟨_, rfl, ?_⟩; replace HB := Aside0.mk (hb); replace HI139 := Aside0.mk (hi); (try clear hb); (try clear hk); (try clear hi)))
  go_ret
  exact ⟨z4, z37⟩
 ·rw [if_neg c5] at H
  have c5b0 : (t143 == 0) = false := beq_eq_false_iff_ne.mpr c5
  have c5b1 : (t143 != 0) = true := bne_iff_ne.mpr c5
  by_cases c11 : t143 = 1
  ·rw [if_pos c11] at H
   have c11b0 : (t143 == 1) = true := beq_iff_eq.mpr c11
   have c11b1 : (t143 != 1) = false := bne_eq_false_iff_eq.mpr c11
   clear c11
   replace H := Option.bind_eq_some_iff.mp H
   obtain ⟨⟨t149, t150, t151⟩, A120, H⟩ := H
   try dsimp only at H
   have A12 := Aside0.mk A120
   clear A120
   replace H := Option.bind_eq_some_iff.mp H
   obtain ⟨⟨t152, t153, t154⟩, A130, H⟩ := H
   try dsimp only at H
   have A13 := Aside0.mk A130
   clear A130
   by_cases c14 : 1 + t152.size ≤ 9223372036854775807
   ·rw [if_pos c14] at H
    have c14b0 := eq_true c14
    have c14b1 : decide (1 + t152.size ≤ 9223372036854775807) = true := decide_eq_true c14
    try have c14b2 : (9223372036854775807 < 1 + t152.size) = False := eq_false (Nat.not_lt.2 c14)
    obtain rfl := Option.some.inj H
    go_enter Tryz.func18, Tryz.ntmps18
    go_wp2_with (first | ((with_reducible refine gate_callee (f := 52) rfl ?_); refine goesQ_ 6 Tryz.func52 #[.slice A0 l0.length c0] ?_; (with_reducible refine (spec_l1New.calls k _ _ l0 t136 t137 t138 w _ ?side1 ?side2 ?side3 A2.out).mono ?_); (case side1 => repeat (first | (with_reducible first | exact HB.out | apply below_alloc | apply pw_below_drewN | apply below_drew1) | exact HB.out)); (case side2 => exact HR0.out); (case side3 => exact HC0.out); rintro e w15 ⟨g139, rfl, hi, hb, hb2⟩; refine ⟨_, rfl, ?_⟩; replace HB := Aside0.mk (hb); have HI139 := Aside0.mk (hi); (try clear hb); (try clear hb2); (try clear hi)) | ((with_reducible refine gate_callee (f := 53) rfl ?_); refine goesQ_ 8 Tryz.func53 #[.pointer (some ⟨g139, 0, none⟩)] ?_; (with_reducible refine (spec_l7path.calls k g139 t136 t137 t138 t140 t141 t142 w _ ?side1 ?side2 A3.out).mono ?_); (case side1 => repeat (first | (with_reducible first | exact HI139.out | apply IsS106.alloc | apply IsS106.drewN | apply IsS106.drew | apply IsS106.set_1 | apply IsS106.set_2) | exact HI139.out)); (case side2 => repeat (first | (with_reducible first | exact HB.out | apply below_alloc | apply pw_below_drewN | apply below_drew1 | refine below_set ?_ (IsS106.ge HI139.out)) | exact HB.out)); rintro e w16 ⟨rfl, hi, hb, hk⟩; refine ⟨_, rfl, ?_⟩; replace HB := Aside0.mk (hb); replace HI139 := Aside0.mk (hi); (try clear hb); (try clear hk); (try clear hi)) | ((with_reducible refine gate_callee (f := 54) rfl ?_); refine goesQ_ 10 Tryz.func54 #[.pointer (some ⟨g139, 0, none⟩), .int .i64 9] ?_; (with_reducible refine (spec_l1Below.calls g139 t136 t141 t142 9 t143 t144 t145 w _ ?side1 ?side2 A4.out).mono ?_); (case side1 => repeat (first | (with_reducible first | exact HI139.out | apply IsS106.alloc | apply IsS106.drewN | apply IsS106.drew | apply IsS106.set_1 | apply IsS106.set_2) | exact HI139.out)); (case side2 => repeat (first | (with_reducible first | exact HB.out | apply below_alloc | apply pw_below_drewN | apply below_drew1 | refine below_set ?_ (IsS106.ge HI139.out)) | exact HB.out)); rintro e w17 ⟨rfl, hi, hb, hk⟩; refine ⟨_, rfl, ?_⟩; replace HB := Aside0.mk (hb); replace HI139 := Aside0.mk (hi); (try clear hb); (try clear hk); (try clear hi)) | ((with_reducible refine gate_callee (f := 54) rfl ?_); refine goesQ_ 20 Tryz.func54 #[.pointer (some ⟨g139, 0, none⟩), .int .i64 2] ?_; (with_reducible refine (spec_l1Below.calls g139 t136 t144 t145 2 t149 t150 t151 w _ ?side1 ?side2 A12.out).mono ?_); (case side1 => repeat (first | (with_reducible first | exact HI139.out | apply IsS106.alloc | apply IsS106.drewN | apply IsS106.drew | apply IsS106.set_1 | apply IsS106.set_2) | exact HI139.out)); (case side2 => repeat (first | (with_reducible first | exact HB.out | apply below_alloc | apply pw_below_drewN | apply below_drew1 | refine below_set ?_ (IsS106.ge HI139.out)) | exact HB.out)); rintro e w18 ⟨rfl, hi, hb, hk⟩; refine ⟨_, rfl, ?_⟩; replace HB := Aside0.mk (hb); replace HI139 := Aside0.mk (hi); (try clear hb); (try clear hk); (try clear hi)) | ((with_reducible refine gate_callee (f := 56) rfl ?_); refine goesQ_ 22 Tryz.func56 #[.pointer (some ⟨g139, 0, none⟩), .int .i64 (wrap64 (199 + t149)), .string (⟨#[97, 46, 47]⟩ : ByteArray)] ?_; (with_reducible refine (spec_l1of.calls k g139 t136 t150 t151 (wrap64 (199 + t149)) (⟨#[97, 46, 47]⟩ : ByteArray) t152 t153 t154 w _ ?side1 ?side2 A13.out).mono ?_); (case side1 => repeat (first | (with_reducible first | exact HI139.out | apply IsS106.alloc | apply IsS106.drewN | apply IsS106.drew | apply IsS106.set_1 | apply IsS106.set_2) | exact HI139.out)); (case side2 => repeat (first | (with_reducible first | exact HB.out | apply below_alloc | apply pw_below_drewN | apply below_drew1 | refine below_set ?_ (IsS106.ge HI139.out)) | exact HB.out)); rintro e w19 ⟨rfl, hi, hb, hk⟩; refine ⟨_, rfl, ?_⟩; replace HB := Aside0.mk (hb); replace HI139 := Aside0.mk (hi); (try clear hb); (try clear hk); (try clear hi)))
    go_ret
    exact ⟨z4, z37⟩
   ·rw [if_neg c14] at H
    exact absurd H (by simp)
  ·rw [if_neg c11] at H
   have c11b0 : (t143 == 1) = false := beq_eq_false_iff_ne.mpr c11
   have c11b1 : (t143 != 1) = true := bne_iff_ne.mpr c11
   obtain rfl := Option.some.inj H
   go_enter Tryz.func18, Tryz.ntmps18
   go_wp2_with (first | ((with_reducible refine gate_callee (f := 52) rfl ?_); refine goesQ_ 6 Tryz.func52 #[.slice A0 l0.length c0] ?_; (with_reducible refine (spec_l1New.calls k _ _ l0 t136 t137 t138 w _ ?side1 ?side2 ?side3 A2.out).mono ?_); (case side1 => repeat (first | (with_reducible first | exact HB.out | apply below_alloc | apply pw_below_drewN | apply below_drew1) | exact HB.out)); (case side2 => exact HR0.out); (case side3 => exact HC0.out); rintro e w20 ⟨g139, rfl, hi, hb, hb2⟩; refine ⟨_, rfl, ?_⟩; replace HB := Aside0.mk (hb); have HI139 := Aside0.mk (hi); (try clear hb); (try clear hb2); (try clear hi)) | ((with_reducible refine gate_callee (f := 53) rfl ?_); refine goesQ_ 8 Tryz.func53 #[.pointer (some ⟨g139, 0, none⟩)] ?_; (with_reducible refine (spec_l7path.calls k g139 t136 t137 t138 t140 t141 t142 w _ ?side1 ?side2 A3.out).mono ?_); (case side1 => repeat (first | (with_reducible first | exact HI139.out | apply IsS106.alloc | apply IsS106.drewN | apply IsS106.drew | apply IsS106.set_1 | apply IsS106.set_2) | exact HI139.out)); (case side2 => repeat (first | (with_reducible first | exact HB.out | apply below_alloc | apply pw_below_drewN | apply below_drew1 | refine below_set ?_ (IsS106.ge HI139.out)) | exact HB.out)); rintro e w21 ⟨rfl, hi, hb, hk⟩; refine ⟨_, rfl, ?_⟩; replace HB := Aside0.mk (hb); replace HI139 := Aside0.mk (hi); (try clear hb); (try clear hk); (try clear hi)) | ((with_reducible refine gate_callee (f := 54) rfl ?_); refine goesQ_ 10 Tryz.func54 #[.pointer (some ⟨g139, 0, none⟩), .int .i64 9] ?_; (with_reducible refine (spec_l1Below.calls g139 t136 t141 t142 9 t143 t144 t145 w _ ?side1 ?side2 A4.out).mono ?_); (case side1 => repeat (first | (with_reducible first | exact HI139.out | apply IsS106.alloc | apply IsS106.drewN | apply IsS106.drew | apply IsS106.set_1 | apply IsS106.set_2) | exact HI139.out)); (case side2 => repeat (first | (with_reducible first | exact HB.out | apply below_alloc | apply pw_below_drewN | apply below_drew1 | refine below_set ?_ (IsS106.ge HI139.out)) | exact HB.out)); rintro e w22 ⟨rfl, hi, hb, hk⟩; refine ⟨_, rfl, ?_⟩; replace HB := Aside0.mk (hb); replace HI139 := Aside0.mk (hi); (try clear hb); (try clear hk); (try clear hi)))
   go_ret
   exact ⟨z4, z37⟩

-- NOT PRINTED: function 33 (impl_all)

/-! ### impl_isVisible: function 34 -/
def impl_isVisible.f (a0 : Int) : Option (Bool) := if a0 ≥ 33 then (some (decide (a0 ≤ 126))) else (some false)
set_option maxHeartbeats 8000000 in
set_option maxRecDepth 100000 in
theorem impl_isVisible.calls (a0 : Int) (r : Bool) (w : World) (h : impl_isVisible.f a0 = some r) :
  Calls Tryz.prog 34 #[.int .u8 a0] w fun e w' => e = .returned (.bool r) ∧ Drawn0 w w' := by
 have H : (if a0 ≥ 33 then (some (decide (a0 ≤ 126))) else (some false)) = some r := h
 clear h
 by_cases c2 : a0 ≥ 33
 ·rw [if_pos c2] at H
  have c2b0 : decide (33 ≤ a0) = true := decide_eq_true c2
  clear c2
  obtain rfl := Option.some.inj H
  go_enter Tryz.func34, Tryz.ntmps34
  go_wp2
  go_ret
  exact ⟨z2, z6⟩
 ·rw [if_neg c2] at H
  have c2b0 : decide (33 ≤ a0) = false := decide_eq_false c2
  clear c2
  obtain rfl := Option.some.inj H
  go_enter Tryz.func34, Tryz.ntmps34
  go_wp2
  go_ret
  exact ⟨z2, z6⟩

/-! ### strings_Join: function 44 -/
def strings_Join.f (l0 : List ByteArray) (a1 : ByteArray) : Option (ByteArray) := if l0.length ≤ 1099511627776 ∧ (Lib.join (l0.map (·.data.toList)) a1.data.toList).length ≤ 1099511627776 then some ⟨(Lib.join (l0.map (·.data.toList)) a1.data.toList).toArray⟩ else none
theorem strings_Join.calls (A0 : Option Addr) (c0 : Nat) (l0 : List ByteArray) (a1 : ByteArray) (r : ByteArray) (w : World) (hr0 : Kd.C Kd.string w A0 l0.length l0) (hc0 : l0.length ≤ c0) (h : strings_Join.f l0 a1 = some r) :
  Calls Tryz.prog 44 #[.slice A0 l0.length c0, .string a1] w fun e w' => e = .returned (.string r) ∧ Below w.heap.size w w' := by
 unfold strings_Join.f at h
 by_cases hs : l0.length ≤ 1099511627776 ∧ (Lib.join (l0.map (·.data.toList)) a1.data.toList).length ≤ 1099511627776
 ·rw [if_pos hs] at h
  obtain rfl := Option.some.inj h
  rcases Nat.eq_zero_or_pos l0.length with h0 | h0
  ·obtain rfl := List.eq_nil_of_length_eq_zero h0
   exact (Tryz.strings_Join_none A0 c0 a1 w).mono fun e w' ⟨he, hw⟩ => ⟨he, hw ▸ Below.refl _ _⟩
  ·obtain ⟨ad, rfl, hcell⟩ := Kd.at_string hr0 0 (by omega) (by omega)
   have hsp := World.cell?_spot hcell
   have hlt := World.block_lt_of_cell? w _ hcell
   obtain ⟨bk, o, sp⟩ := ad
   obtain rfl : sp = none := by simpa [Addr.add] using hsp
   refine Tryz.strings_Join bk o c0 l0 a1 w (fun j x hj => ?_) (by simpa [Addr.add] using hlt) (by omega) hc0 (by omega)
   have hjl : j < l0.length := (List.getElem?_eq_some_iff.1 hj).1
   obtain ⟨ad, had, hc⟩ := Kd.at_string hr0 (j : Int) (by omega) (by omega)
   obtain rfl := Option.some.inj had
   rcases Nat.eq_zero_or_pos j with rfl | hj0
   ·simpa [Addr.add, rdOf, List.getD_eq_getElem?_getD, hj] using hc
   ·have hne : j ≠ 0 := by omega
    simpa [Addr.add, rdOf, List.getD_eq_getElem?_getD, hj, hne] using hc
 ·rw [if_neg hs] at h; cases h


/-! ### strings_Split: function 46 -/
def strings_Split.f (a0 : ByteArray) (a1 : ByteArray) : Option (List ByteArray) := if a0.size < 4294967281 ∧ 1 ≤ a1.size then some (Lib.splitB a1 0 (Lib.countB a0 a1) a0) else none
theorem strings_Split.calls (a0 : ByteArray) (a1 : ByteArray) (r : List ByteArray) (w : World) (hG : Gl w) (h : strings_Split.f a0 a1 = some r) :
  Calls Tryz.prog 46 #[.string a0, .string a1] w fun e w' => ∃ v0_ : Value, e = .returned (v0_) ∧ Kd.R Kd.string 9 w' w.heap.size (fun _ => True) v0_ r ∧ Below w.heap.size w w' := by
 unfold strings_Split.f at h
 by_cases hl : a0.size < 4294967281 ∧ 1 ≤ a1.size
 ·rw [if_pos hl] at h
  obtain ⟨hs, h1⟩ := hl
  obtain ⟨m, hm⟩ := hG.maxLen
  have hr := Option.some.inj h
  have hlen : r.length = Lib.countB a0 a1 + 1 := by rw [← hr]; exact Lib.splitB_all a1 h1 0 _ a0 rfl
  have hle := Lib.countB_le a1 h1 a0.size a0 (Nat.le_refl _)
  refine (Tryz.strings_Split a0 a1 m w hs hm h1).mono ?_
  rintro e w' ⟨he, hw⟩
  rw [hr] at hw
  subst hw
  refine ⟨_, he, ?_, below_alloc (Below.refl _ _) _⟩
  have ho := World.ownsRow_lit (base := w.heap.size) (e := 9) (size := 1) w (r.map Value.string).toArray (Lib.countB a0 a1 + 1) (Nat.le_refl _) (by unfold maxLen; omega) (by simp [hlen])
  refine Kd.R_of_own ?_ (fun _ _ => trivial)
  rw [hlen]
  simpa [encs] using ho
 ·rw [if_neg hl] at h; cases h


/-! ### stringslite_HasPrefix: function 109 -/
def stringslite_HasPrefix.f (a0 : ByteArray) (a1 : ByteArray) : Option (Bool) := if (a0.size : Int) ≥ (a1.size : Int) then (if 0 ≤ (a1.size : Int) then (if (a1.size : Int) ≤ (a0.size : Int) then (some ((a0.extract 0 ((a1.size : Int) : Int).toNat).toList == a1.toList)) else (none)) else (none)) else (some false)
set_option maxHeartbeats 8000000 in
set_option maxRecDepth 100000 in
theorem stringslite_HasPrefix.calls (a0 : ByteArray) (a1 : ByteArray) (r : Bool) (w : World) (h : stringslite_HasPrefix.f a0 a1 = some r) :
  Calls Tryz.prog 109 #[.string a0, .string a1] w fun e w' => e = .returned (.bool r) ∧ Drawn0 w w' := by
 have H : (if (a0.size : Int) ≥ (a1.size : Int) then (if 0 ≤ (a1.size : Int) then (if (a1.size : Int) ≤ (a0.size : Int) then (some ((a0.extract 0 ((a1.size : Int) : Int).toNat).toList == a1.toList)) else (none)) else (none)) else (some false)) = some r := h
 clear h
 by_cases c3 : (a0.size : Int) ≥ (a1.size : Int)
 ·rw [if_pos c3] at H
  have c3b0 : decide ((a1.size : Int) ≤ (a0.size : Int)) = true := decide_eq_true c3
  have c3b1 : decide (a1.size ≤ a0.size) = true := decide_eq_true (Int.ofNat_le.mp c3)
  clear c3
  by_cases c4 : 0 ≤ (a1.size : Int)
  ·rw [if_pos c4] at H
   have c4b0 := eq_true c4
   have c4b1 : decide (0 ≤ (a1.size : Int)) = true := decide_eq_true c4
   clear c4
   by_cases c5 : (a1.size : Int) ≤ (a0.size : Int)
   ·rw [if_pos c5] at H
    have c5b0 := eq_true c5
    have c5b1 : decide ((a1.size : Int) ≤ (a0.size : Int)) = true := decide_eq_true c5
    clear c5
    obtain rfl := Option.some.inj H
    go_enter Tryz.func109, Tryz.ntmps109
    go_wp2
    go_ret
    exact ⟨z2, z6⟩
   ·rw [if_neg c5] at H
    exact absurd H (by simp)
  ·rw [if_neg c4] at H
   exact absurd H (by simp)
 ·rw [if_neg c3] at H
  have c3b0 : decide ((a1.size : Int) ≤ (a0.size : Int)) = false := decide_eq_false c3
  have c3b1 : decide (a1.size ≤ a0.size) = false := decide_eq_false (fun h => c3 (Int.ofNat_le.mpr h))
  clear c3
  obtain rfl := Option.some.inj H
  go_enter Tryz.func109, Tryz.ntmps109
  go_wp2
  go_ret
  exact ⟨z2, z6⟩

/-! ### strings_HasPrefix: function 57 -/
def strings_HasPrefix.f (a0 : ByteArray) (a1 : ByteArray) : Option (Bool) := (stringslite_HasPrefix.f a0 a1).bind fun t155 => (some t155)
set_option maxHeartbeats 8000000 in
set_option maxRecDepth 100000 in
theorem strings_HasPrefix.calls (a0 : ByteArray) (a1 : ByteArray) (r : Bool) (w : World) (h : strings_HasPrefix.f a0 a1 = some r) :
  Calls Tryz.prog 57 #[.string a0, .string a1] w fun e w' => e = .returned (.bool r) ∧ Drawn0 w w' := by
 have H : ((stringslite_HasPrefix.f a0 a1).bind fun t155 => (some t155)) = some r := h
 clear h
 replace H := Option.bind_eq_some_iff.mp H
 obtain ⟨t155, A30, H⟩ := H
 try dsimp only at H
 have A3 := Aside0.mk A30
 clear A30
 obtain rfl := Option.some.inj H
 go_enter Tryz.func57, Tryz.ntmps57
 go_wp2_with (first | ((with_reducible refine gate_callee (f := 109) rfl ?_); refine goesQ_ 7 Tryz.func109 #[.string a0, .string a1] ?_; (with_reducible refine (stringslite_HasPrefix.calls a0 a1 t155 _ A3.out).mono ?_); rintro e w' ⟨rfl, ⟨nd, rfl⟩⟩; refine ⟨_, rfl, ?_⟩))
 go_ret
 exact ⟨z2, z6⟩

/-! ### strings_IndexByte: function 130 -/
def strings_IndexByte.f (a0 : ByteArray) (a1 : Int) : Option (Int) := some (Lib.indexByte a0.data.toList a1.toNat.toUInt8)
theorem strings_IndexByte.calls (a0 : ByteArray) (a1 : Int) (r : Int) (w : World) (h : strings_IndexByte.f a0 a1 = some r) :
  Calls Tryz.prog 130 #[.string a0, .int .u8 a1] w fun e w' => e = .returned (.int .i64 r) ∧ Drawn0 w w' := by
 obtain rfl := Option.some.inj h
 exact (Tryz.strings_IndexByte a0 a1 w).mono fun e w' ⟨he, hw⟩ => ⟨he, hw ▸ Drawn0.refl w⟩


/-! ### strings_IndexAny: function 37 -/
theorem ia_get_data (s : ByteArray) (i : Nat) (h : i < s.size) : s.data.toList[i]? = some (s.get! i) := by
 have := get_at s i h
 rw [Nat.add_zero] at this
 rw [this]
 show s.data.toList[i]? = some s.data[i]
 simp
theorem ia_decode_span (s : ByteArray) (pos : Nat) (h : pos < s.size) (ha : 128 ≤ (s[pos]'h).toNat) : ∀ k, k < (Utf8.decode s pos).2 → ∃ b, s.data.toList[pos + k]? = some b ∧ 128 ≤ b.toNat := by
 have h0 : 128 ≤ (s.get! (pos + 0)).toNat := by rw [get_at s pos h]; exact ha
 have key : ∀ k, pos + k < s.size → 128 ≤ (s.get! (pos + k)).toNat → ∃ b, s.data.toList[pos + k]? = some b ∧ 128 ≤ b.toNat := fun k hk hb => ⟨_, ia_get_data s _ hk, hb⟩
 have hn : ¬ (s.get! (pos + 0)).toNat < 128 := by omega
 intro k
 simp only [Utf8.decode, hn, if_false]
 repeat' split
 all_goals intro hk
 all_goals simp only [Bool.and_eq_true, decide_eq_true_eq, beq_iff_eq] at *
 all_goals have hk4 : k = 0 ∨ k = 1 ∨ k = 2 ∨ k = 3 := by omega
 all_goals rcases hk4 with rfl | rfl | rfl | rfl
 all_goals first
  | (exact key 0 (by omega) h0)
  | (exact key _ (by omega) (by omega))
  | omega
theorem ia_run_next_any_at {P : Program} (W : World) (k : Nat) (s : ByteArray) (pos : Nat) (ty : TypeId) (hk : W.heap[k]? = some (.stringIter s pos)) (h : pos < s.size) :
  (Instr.next (.pointer (some ⟨k, 0, none⟩)) true ty).run P W =
   .ok (.tuple #[.bool true, .int .i64 pos, .int .i32 (Utf8.decode s pos).1]) { W with heap := W.heap.setIfInBounds k (.stringIter s (pos + (Utf8.decode s pos).2)) } := by
 simp only [Instr.next, getObj, setObj, Sem.run_bind, Sem.run, hk, Result.andThen, h, if_true]
 simp [goInt]
theorem ia_run_next_end_at {P : Program} (W : World) (k : Nat) (s : ByteArray) (pos : Nat) (ty : TypeId) (hk : W.heap[k]? = some (.stringIter s pos)) (h : ¬ pos < s.size) :
  (Instr.next (.pointer (some ⟨k, 0, none⟩)) true ty).run P W = .ok (.tuple #[.bool false]) W := by
 simp [Instr.next, getObj, Sem.run, hk, h]
theorem ia_NoAny_span (s : ByteArray) (chars : List UInt8) (pos : Nat) (h : pos < s.size) (ha : 128 ≤ (s[pos]'h).toNat) (hc : ∀ b ∈ chars, b.toNat < 128) (hn : Lib.NoAny s.data.toList chars pos) : Lib.NoAny s.data.toList chars (pos + (Utf8.decode s pos).2) := by
 intro j b hj hb
 by_cases hlt : j < pos
 ·exact hn j b hlt hb
 ·obtain ⟨b', hb', hge⟩ := ia_decode_span s pos h ha (j - pos) (by omega)
  rw [show pos + (j - pos) = j by omega] at hb'
  rw [hb] at hb'
  obtain rfl := Option.some.inj hb'
  cases hq : chars.contains b with
  | false => rfl
  | true => have := hc b (by simpa using hq); omega
theorem ia_decode_in (s : ByteArray) (pos : Nat) (h : pos < s.size) : pos + (Utf8.decode s pos).2 ≤ s.size ∧ 1 ≤ (Utf8.decode s pos).2 := by
 simp only [Utf8.decode]
 repeat' split
 all_goals simp only [Bool.and_eq_true, decide_eq_true_eq, beq_iff_eq] at *
 all_goals omega
theorem ia_run_convert_int_string {P : Program} (w : World) (src dst : TypeId) (k : IntKind) (r : Int) (hs : P.underlying src = some (.int k)) (hd : P.underlying dst = some .string) :
  (convert src dst (.int k r)).run P w = .ok (.string (Utf8.encode r)) w := by
 simp [convert, run_underlying hs, run_underlying hd, Conv.intToString, Result.andThen]
/-- What a rune of 128 and more is written as: two to four bytes, the last of them 128 or more. -/
theorem ia_enc_high (r : Nat) (h0 : 128 ≤ r) (hv : Utf8.valid (r : Int) = true) : ∃ (n : Nat) (b : UInt8), (Utf8.encode (r : Int)).data.toList[n]? = some b ∧ 128 ≤ b.toNat ∧ (Utf8.encode (r : Int)).size = n + 1 ∧ 1 ≤ n ∧ n ≤ 3 := by
 unfold Utf8.encode
 simp only [hv, if_true, Int.toNat_natCast]
 rw [if_neg (by omega)]
 split
 ·exact ⟨1, UInt8.ofNat (128 + r % 64), by simp, by simp; omega, rfl, by omega, by omega⟩
 ·split
  ·exact ⟨2, UInt8.ofNat (128 + r % 64), by simp, by simp; omega, rfl, by omega, by omega⟩
  ·exact ⟨3, UInt8.ofNat (128 + r % 64), by simp, by simp; omega, rfl, by omega, by omega⟩
theorem ia_quiet_add_same {P : Program} {f : FuncId} {args : Array Value} {w : World} {a n : Nat} {v : Value}
  (h : Calls P f args (w.drewN (a + n)) fun e w' => e = .returned v ∧ w' = w.drewN (a + n)) :
  Calls P f args (w.drewN (a + n)) fun e w'' => e = .returned v ∧ ∃ m, w'' = w.drewN (a + m) :=
 h.mono fun _ _ ⟨he, hm⟩ => ⟨he, n, hm⟩
theorem ia_irempty (b : UInt8) (W : World) : Calls Tryz.prog 130 #[.string ByteArray.empty, .int .u8 (b.toNat : Int)] W fun e w' => e = .returned (.int .i64 (-1)) ∧ w' = W :=
 (Tryz.strings_IndexByte ByteArray.empty (b.toNat : Int) W).mono fun e w' ⟨h1, h2⟩ => ⟨h1, h2⟩
set_option maxHeartbeats 8000000 in
set_option maxRecDepth 100000 in
theorem ia_irune (chars : ByteArray) (h2 : chars.size = 2) (hc : ∀ (j : Nat) b, chars.data.toList[j]? = some b → b.toNat < 128) (r : Nat) (h0 : 128 ≤ r) (h1 : r ≤ 2147483647) (w : World) :
  Calls Tryz.prog 81 #[.string chars, .int .i32 r] w fun e w' => e = .returned (.int .i64 (-1)) ∧ Below w.heap.size w w' := by
 have p1 : decide ((r : Int) < 128) = false := decide_eq_false (by omega)
 have p2 : (0 ≤ (r : Int)) = True := eq_true (by omega)
 have HC := Aside0.mk hc
 clear hc
 by_cases hE : r = 65533
 ·subst hE
  go_enter Tryz.func81, Tryz.ntmps81
  go_wp2
  go_loopg [5, 6] 2 (fun g _ _ wx => ∃ i : Nat, i + g = 2 ∧ wx = w.iter chars i)
  case atStart => exact ⟨0, rfl, rfl⟩
  case round =>
   obtain ⟨i, hig, rfl⟩ := hrel
   cases gk with
   | zero =>
    obtain rfl : i = 2 := by omega
    have hnx := fun ty => run_next_end (P := Tryz.prog) w chars 2 ty (by omega)
    go_wp2
    go_ret
    exact ⟨rfl, ⟨rfl, rfl, rfl, by simp [World.iter], fun k hk => Below.heap_alloc w _ k hk⟩⟩
   | succ g =>
    have hi : i < chars.size := by omega
    obtain ⟨x, hx⟩ : ∃ x : UInt8, chars[i]'hi = x := ⟨_, rfl⟩
    have hx128 : x.toNat < 128 := HC.out i x (by rw [← hx]; exact Lib.data_getElem? chars i hi)
    have hnx := fun ty => run_next_ascii (P := Tryz.prog) w chars i ty hi (by rw [hx]; exact hx128)
    rw [hx] at hnx
    have hne : ((x.toNat : Int) == 65533) = false := beq_eq_false_iff_ne.2 (by omega)
    go_wp2
    go_roundg g
    case measure => omega
    case rel => exact ⟨i + 1, by omega, rfl⟩
 ·have hE1 : ((r : Int) == 65533) = false := beq_eq_false_iff_ne.2 (by omega)
  by_cases hv : Lib.validRune r = true
  ·have hval : Utf8.valid (r : Int) = true := by
    simp [Lib.validRune, Utf8.valid] at hv ⊢
    omega
   obtain ⟨n, b, hnb, hb, hsz, hn1, hn3⟩ := ia_enc_high r h0 hval
   have kb := fun W => ia_run_convert_int_string (P := Tryz.prog) W 21 9 .i32 (r : Int) Tryz.underlying21 Tryz.underlying9
   generalize Utf8.encode (r : Int) = rs at hnb hsz kb
   go_enter Tryz.func81, Tryz.ntmps81
   go_wp2_with (go_at_call 131; refine (Tryz.utf8_ValidRune _ _).mono ?_; rintro e w' ⟨rfl, hw⟩; rw [hw, hv])
   go_step3
   go_wp2_with fail
   go_loopg [9] 0 (fun g v9 w' => v9 = .int .i64 (n : Int) ∧ w = w')
   case atStart => exact ⟨by simp [hsz], rfl⟩
   case round =>
    obtain ⟨rfl, rfl⟩ := hrel
    by_cases hn2 : n = 1
    ·subst hn2
     have hi : 1 < chars.size := by omega
     have hj : 1 < rs.size := by omega
     have hx128 : (chars[1]'hi).toNat < 128 := HC.out 1 _ (Lib.data_getElem? chars 1 hi)
     have hrb : rs[1]'hj = b := by have := Lib.data_getElem? rs 1 hj; rw [hnb] at this; exact (Option.some.inj this).symm
     have hne : (((chars[1]'hi).toNat : Int) == ((rs[1]'hj).toNat : Int)) = false := beq_eq_false_iff_ne.2 (by rw [hrb]; omega)
     have hne2 : (((chars[1]'hi).toNat : Int) != ((rs[1]'hj).toNat : Int)) = true := bne_iff_ne.2 (by rw [hrb]; omega)
     have hnb1 : (((chars[1]'hi).toNat : Int) == (b.toNat : Int)) = false := beq_eq_false_iff_ne.2 (by omega)
     have hnb2 : (((chars[1]'hi).toNat : Int) != (b.toNat : Int)) = true := bne_iff_ne.2 (by omega)
     have hnb3 : ((chars[1]'hi).toNat == b.toNat) = false := beq_eq_false_iff_ne.2 (by omega)
     have hnb4 : (chars[1]'hi).toNat ≠ b.toNat := by omega
     go_wp2_with fail
     go_step3
     go_wp2_with fail
     go_quiet (fail)
     go_wp2_with fail
     have hw2 : IntKind.i64.wrap 2 = 2 := by decide
     have hz2 : (2 : Int) ≤ (chars.size : Int) := by omega
     have HIB := Aside0.mk (ia_irempty b)
     clear hnb1 hnb2 hnb3 hnb4 hne hne2 hx128
     go_quiet ((go_at_call 130; exact ia_quiet_add_same (HIB.out _)))
     go_wp2_with fail
     go_simp
     go_ret
     exact ⟨rfl, pw_below_drewN (Below.refl _ _) _⟩
    ·have c1 : decide ((n : Int) < 2) = false := decide_eq_false (by omega)
     have c2 : ((n : Int) < 2) = False := eq_false (by omega)
     have c3 : (n < 2) = False := eq_false (by omega)
     go_wp2_with fail
     rw [Exit.noGoto_ret]
     go_ret
     exact ⟨rfl, Below.refl _ _⟩
  ·have hv2 : Lib.validRune r = false := by simpa using hv
   go_enter Tryz.func81, Tryz.ntmps81
   go_wp2_with (go_at_call 131; refine (Tryz.utf8_ValidRune _ _).mono ?_; rintro e w' ⟨rfl, hw⟩; rw [hw, hv2])
   go_ret
   exact ⟨rfl, Below.refl _ _⟩

theorem ia_iter_heap_set (W : World) (k : Nat) (o : Obj) (hk : k < W.heap.size) : ({ W with heap := W.heap.setIfInBounds k o } : World).heap[k]? = some o := by
 simp [hk]
theorem ia_iter_set_below {w W : World} (h : Below w.heap.size w W) (o : Obj) : Below w.heap.size w { W with heap := W.heap.setIfInBounds w.heap.size o } :=
 ⟨h.os, h.tape, h.output, by simpa using h.size, fun i hi => by
  rw [← h.block i hi]
  show (W.heap.setIfInBounds w.heap.size o)[i]? = _
  rw [Array.getElem?_setIfInBounds_ne (by omega)]⟩
set_option maxHeartbeats 8000000 in
set_option maxRecDepth 100000 in
theorem ia_iany_short (s chars : ByteArray) (w : World) (h2 : chars.size = 2) (h8 : s.size ≤ 8) (hac : ∀ (j : Nat) b, chars.data.toList[j]? = some b → b.toNat < 128) :
  Calls Tryz.prog 37 #[.string s, .string chars] w fun e w' => e = .returned (.int .i64 (Lib.indexAny s.data.toList chars.data.toList)) ∧ Below w.heap.size w w' := by
 have hemp : chars.toList.isEmpty = false := by
  rw [Lib.toList_data]
  cases h : chars.data.toList with
  | nil => have := Lib.size_eq chars; rw [h, List.length_nil] at this; omega
  | cons _ _ => rfl
 have hn1 : ((chars.size : Int) == 1) = false := beq_eq_false_iff_ne.2 (by omega)
 have h8z : decide ((8 : Int) < (s.size : Int)) = false := decide_eq_false (by omega)
 have IR := Aside0.mk (ia_irune chars h2 hac)
 have HA := Aside0.mk hac
 have H2 := Aside0.mk h2
 clear h2 hac
 go_enter Tryz.func37, Tryz.ntmps37
 go_wp2_with (go_at_call 82; refine (Tryz.strings_shouldUseASCIISet _ _).mono ?_; rintro e w' ⟨rfl, hw⟩; rw [hw, h8z])
 go_loopg [9, 10] s.size (fun g _ _ wx => ∃ i : Nat, i ≤ s.size ∧ s.size ≤ i + g ∧ Aside0 (wx.heap[w.heap.size]? = some (.stringIter s i)) ∧ Aside0 (Below w.heap.size w wx) ∧ Aside0 (Lib.NoAny s.data.toList chars.data.toList i))
 case atStart => exact ⟨0, by omega, by omega, ⟨World.iter_heap w s 0⟩, ⟨below_alloc (Below.refl _ _) _⟩, ⟨Lib.NoAny.zero _ _⟩⟩
 case round =>
  obtain ⟨i, hil, hig, HI, HB, HN⟩ := hrel
  by_cases hi : i < s.size
  ·cases gk with
   | zero => omega
   | succ g =>
    have hnx0 := fun ty => ia_run_next_any_at (P := Tryz.prog) wr w.heap.size s i ty HI.out hi
    have hlt : w.heap.size < wr.heap.size := blk_lt HI.out
    have hin := ia_decode_in s i hi
    have HS0 := ia_NoAny_span s chars.data.toList i hi
    obtain ⟨W2, hW2⟩ : ∃ W2 : World, { wr with heap := wr.heap.setIfInBounds w.heap.size (.stringIter s (i + (Utf8.decode s i).2)) } = W2 := ⟨_, rfl⟩
    have HI2 : Aside0 (W2.heap[w.heap.size]? = some (.stringIter s (i + (Utf8.decode s i).2))) := ⟨by rw [← hW2]; exact ia_iter_heap_set wr _ _ hlt⟩
    have HB2 : Aside0 (Below w.heap.size w W2) := ⟨by rw [← hW2]; exact ia_iter_set_below HB.out _⟩
    rw [hW2] at hnx0
    clear hW2 hlt HB
    by_cases hx128 : (s[i]'hi).toNat < 128
    ·have hd := decode_ascii s i hi hx128
     obtain ⟨x, hx⟩ : ∃ x : UInt8, s[i]'hi = x := ⟨_, rfl⟩
     have hxl : s.data.toList[i]? = some x := by rw [← hx]; exact Lib.data_getElem? s i hi
     rw [hd] at hin HI2
     simp only [hd, hx] at hnx0 HI2 hin
     rw [hx] at hx128
     have hnx := hnx0
     clear hnx0 HI hd HS0
     have Hx := Aside0.mk hxl
     clear hxl hx
     have hcon := Lib.contains_iff_indexByte chars.data.toList x
     have hback : ((x.toNat : Int)).toNat.toUInt8 = x := by simp
     cases hinc : chars.data.toList.contains x
     ·rw [hinc] at hcon
      have hltb : ¬ ((0 : Int) ≤ Lib.indexByte chars.data.toList x) := of_decide_eq_false hcon.symm
      clear hcon
      go_wp2_with (go_at_call 81; refine (Tryz.strings_IndexRune_ascii _ _ _ (by omega) (by omega)).mono ?_; rintro e w' ⟨rfl, hw⟩; rw [hw, hback])
      go_roundg g
      case measure => omega
      case rel => exact ⟨i + 1, by omega, by omega, HI2, HB2, ⟨HN.out.succ Hx.out hinc⟩⟩
     ·rw [hinc] at hcon
      have hge : (0 : Int) ≤ Lib.indexByte chars.data.toList x := of_decide_eq_true hcon.symm
      clear hcon
      go_wp2_with (go_at_call 81; refine (Tryz.strings_IndexRune_ascii _ _ _ (by omega) (by omega)).mono ?_; rintro e w' ⟨rfl, hw⟩; rw [hw, hback])
      go_ret
      exact ⟨by rw [Lib.indexAny_hit HN.out Hx.out hinc]; rfl, HB2.out⟩
    ·have hd := decode_high s i hi (by omega)
     have hle := decode_le s i
     have HS := Aside0.mk (HS0 (by omega) (fun b hb => by obtain ⟨j, hj⟩ := List.mem_iff_getElem?.1 hb; exact HA.out j b hj) HN.out)
     clear HS0 hx128 HN
     obtain ⟨dd, hdd⟩ : ∃ dd, Utf8.decode s i = dd := ⟨_, rfl⟩
     rw [hdd] at HS hd hle HI2 hin
     simp only [hdd] at hnx0
     have hnx := hnx0
     clear hnx0 HI hdd
     obtain ⟨rr, nn⟩ := dd
     dsimp only at hnx HS hd hle HI2 hin
     go_wp2_with (go_at_call 81; (with_reducible refine (IR.out rr (by omega) (by omega) _).mono ?_); rintro e w' ⟨rfl, hb⟩; have hI3 := Aside0.mk (blk_below HI2.out hb); have hB3 := Aside0.mk (below_step HB2.out hb); clear hb)
     go_roundg g
     case measure => omega
     case rel => exact ⟨i + nn, by omega, by omega, hI3, hB3, HS⟩
  ·obtain rfl : i = s.size := by omega
   have hnx := fun ty => ia_run_next_end_at (P := Tryz.prog) wr w.heap.size s s.size ty HI.out hi
   go_wp2
   go_ret
   exact ⟨by rw [Lib.indexAny_none (by rw [← Lib.size_eq]; exact HN.out)]; rfl, HB.out⟩

def strings_IndexAny.f (a0 : ByteArray) (a1 : ByteArray) : Option Int := if a0.size < 4294967281 ∧ a1.size = 2 ∧ (a1.data.toList.all fun b => decide (b.toNat < 128)) = true then some (Lib.indexAny a0.data.toList a1.data.toList) else none
theorem strings_IndexAny.calls (a0 : ByteArray) (a1 : ByteArray) (r : Int) (w : World) (h : strings_IndexAny.f a0 a1 = some r) :
  Calls Tryz.prog 37 #[.string a0, .string a1] w fun e w' => e = .returned (.int .i64 r) ∧ Below w.heap.size w w' := by
 unfold strings_IndexAny.f at h
 by_cases hl : a0.size < 4294967281 ∧ a1.size = 2 ∧ (a1.data.toList.all fun b => decide (b.toNat < 128)) = true
 ·rw [if_pos hl] at h
  obtain ⟨hs, h2, ha⟩ := hl
  have hac : ∀ (j : Nat) b, a1.data.toList[j]? = some b → b.toNat < 128 := fun j b hj => of_decide_eq_true (List.all_eq_true.1 ha b (List.mem_iff_getElem?.2 ⟨j, hj⟩))
  obtain rfl := Option.some.inj h
  by_cases h8 : a0.size ≤ 8
  ·exact ia_iany_short a0 a1 w h2 h8 hac
  ·refine (Any.strings_IndexAny_long Tryz.lays153 (zero_of_info (t := 90) (n := 256) (by kernel_rfl)).1 (by kernel_rfl) a0 a1 w (by omega) (by omega) hs (by omega) hac).mono fun e w' ⟨h1, h2⟩ => ⟨h1, ?_⟩
   rw [h2]
   exact ((Below.refl _ _).alloc (Nat.le_refl _) _).alloc (by simp) _
 ·rw [if_neg hl] at h; cases h


/-! ### strings_ContainsAny: function 58 -/
def strings_ContainsAny.f (a0 : ByteArray) (a1 : ByteArray) : Option (Bool) := (strings_IndexAny.f a0 a1).bind fun t156 => (some (decide (t156 ≥ 0)))
set_option maxHeartbeats 8000000 in
set_option maxRecDepth 100000 in
theorem strings_ContainsAny.calls (a0 : ByteArray) (a1 : ByteArray) (r : Bool) (w : World) (h : strings_ContainsAny.f a0 a1 = some r) :
  Calls Tryz.prog 58 #[.string a0, .string a1] w fun e w' => e = .returned (.bool r) ∧ Below w.heap.size w w' := by
 have HB := Aside0.mk (Below.refl w.heap.size w)
 have H : ((strings_IndexAny.f a0 a1).bind fun t156 => (some (decide (t156 ≥ 0)))) = some r := h
 clear h
 replace H := Option.bind_eq_some_iff.mp H
 obtain ⟨t156, A30, H⟩ := H
 try dsimp only at H
 have A3 := Aside0.mk A30
 clear A30
 obtain rfl := Option.some.inj H
 go_enter Tryz.func58, Tryz.ntmps58
 go_wp2_with (first | ((with_reducible refine gate_callee (f := 37) rfl ?_); refine goesQ_ 7 Tryz.func37 #[.string a0, .string a1] ?_; (with_reducible refine (strings_IndexAny.calls a0 a1 t156 _ A3.out).mono ?_); rintro e w4 ⟨rfl, hb⟩; refine ⟨_, rfl, ?_⟩; replace HB := Aside0.mk (below_step z0 hb); (try clear hb)))
 go_ret
 exact ⟨z4, z0⟩

/-! ### impl_isDigit: function 139 -/
def impl_isDigit.f (a0 : Int) : Option (Bool) := if a0 ≥ 48 then (some (decide (a0 ≤ 57))) else (some false)
set_option maxHeartbeats 8000000 in
set_option maxRecDepth 100000 in
theorem impl_isDigit.calls (a0 : Int) (r : Bool) (w : World) (h : impl_isDigit.f a0 = some r) :
  Calls Tryz.prog 139 #[.int .u8 a0] w fun e w' => e = .returned (.bool r) ∧ Drawn0 w w' := by
 have H : (if a0 ≥ 48 then (some (decide (a0 ≤ 57))) else (some false)) = some r := h
 clear h
 by_cases c2 : a0 ≥ 48
 ·rw [if_pos c2] at H
  have c2b0 : decide (48 ≤ a0) = true := decide_eq_true c2
  clear c2
  obtain rfl := Option.some.inj H
  go_enter Tryz.func139, Tryz.ntmps139
  go_wp2
  go_ret
  exact ⟨z2, z6⟩
 ·rw [if_neg c2] at H
  have c2b0 : decide (48 ≤ a0) = false := decide_eq_false c2
  clear c2
  obtain rfl := Option.some.inj H
  go_enter Tryz.func139, Tryz.ntmps139
  go_wp2
  go_ret
  exact ⟨z2, z6⟩

/-! ### impl_hexOf: function 110 -/
def impl_hexOf.j0 : Nat → Int → Bool → Option (Int)
 | 0, _, _ => none
 | k + 1, x0, x9 => if x9 = true then (some (((x0 - 97) % 256) + 10)) else (if x0 ≥ 65 then (if x0 ≤ 70 then (some (((x0 - 65) % 256) + 10)) else (some (-1))) else (some (-1)))
def impl_hexOf.f (k : Nat) (a0 : Int) : Option (Int) := (impl_isDigit.f a0).bind fun t157 => (if t157 = true then (some ((a0 - 48) % 256)) else (if a0 ≥ 97 then (impl_hexOf.j0 k a0 (decide (a0 ≤ 102))) else (impl_hexOf.j0 k a0 false)))
theorem impl_hexOf.mono_l : ∀ k, (∀ y0 y1, LeO (impl_hexOf.j0 k y0 y1) (impl_hexOf.j0 (k + 1) y0 y1))
 | 0 => fun _ _ r h => by simp [impl_hexOf.j0] at h
 | k + 1 => by
  have ih0 := impl_hexOf.mono_l k
  ·intro y0 y1
   unfold impl_hexOf.j0
   repeat' first | (with_reducible first | exact ih0 _ _ | exact LeO.refl _ | exact LeO.none _ | refine LeO.ite ?_ ?_ | refine LeO.bind ?_ (fun _ => ?_)) | exact ih0 _ _ | exact LeO.none _ | refine LeO.ite ?_ ?_ | refine LeO.bind ?_ (fun _ => ?_)
theorem impl_hexOf.mono : ∀ a0 k, LeO (impl_hexOf.f k a0) (impl_hexOf.f (k + 1) a0) := by
 intro a0 k
 have ih0 := impl_hexOf.mono_l k
 unfold impl_hexOf.f
 repeat' first | (with_reducible first | exact ih0 _ _ | exact LeO.refl _ | exact LeO.none _ | refine LeO.ite ?_ ?_ | refine LeO.bind ?_ (fun _ => ?_)) | exact ih0 _ _ | exact LeO.none _ | refine LeO.ite ?_ ?_ | refine LeO.bind ?_ (fun _ => ?_)
set_option maxHeartbeats 8000000 in
set_option maxRecDepth 100000 in
theorem impl_hexOf.calls (k : Nat) (a0 : Int) (r : Int) (w : World) (h : impl_hexOf.f k a0 = some r) :
  Calls Tryz.prog 110 #[.int .u8 a0] w fun e w' => e = .returned (.int .i64 r) ∧ Drawn0 w w' := by
 have H : ((impl_isDigit.f a0).bind fun t157 => (if t157 = true then (some ((a0 - 48) % 256)) else (if a0 ≥ 97 then (impl_hexOf.j0 k a0 (decide (a0 ≤ 102))) else (impl_hexOf.j0 k a0 false)))) = some r := h
 clear h
 replace H := Option.bind_eq_some_iff.mp H
 obtain ⟨t157, A20, H⟩ := H
 try dsimp only at H
 have A2 := Aside0.mk A20
 clear A20
 by_cases c3 : t157 = true
 ·subst c3
  rw [if_pos rfl] at H
  obtain rfl := Option.some.inj H
  go_enter Tryz.func110, Tryz.ntmps110
  go_wp2_with (first | ((with_reducible refine gate_callee (f := 139) rfl ?_); refine goesQ_ 5 Tryz.func139 #[.int .u8 a0] ?_; (with_reducible refine (impl_isDigit.calls a0 true _ A2.out).mono ?_); rintro e w' ⟨rfl, ⟨nd, rfl⟩⟩; refine ⟨_, rfl, ?_⟩))
  go_ret
  exact ⟨z2, z6⟩
 ·replace c3 := Bool.eq_false_iff.mpr c3
  subst c3
  rw [if_neg Bool.false_ne_true] at H
  have HC4 := Aside0.mk H
  clear H
  go_enter Tryz.func110, Tryz.ntmps110
  go_upto_region 3 with (first | ((with_reducible refine gate_callee (f := 139) rfl ?_); refine goesQ_ 5 Tryz.func139 #[.int .u8 a0] ?_; (with_reducible refine (impl_isDigit.calls a0 false _ A2.out).mono ?_); rintro e w' ⟨rfl, ⟨nd, rfl⟩⟩; refine ⟨_, rfl, ?_⟩))
  (try simp only [Act.put, List.setIfInBounds_toArray, List.set_cons_zero, List.set_cons_succ])
  go_cut [9] (fun v9 wc => ∃ (kq : Nat) (x9_3 : Bool), v9 = .bool x9_3 ∧ Aside0 (impl_hexOf.j0 kq a0 x9_3 = some r) ∧ Aside0 (kq ≤ k) ∧ Drawn0 w wc)
  case first =>
   have H := HC4.out
   clear HC4
   by_cases c5 : a0 ≥ 97
   ·rw [if_pos c5] at H
    have c5b0 : decide (97 ≤ a0) = true := decide_eq_true c5
    clear c5
    (first | rw [c5b0] | (simp only [i64_w, i32_w]; rw [c5b0]) | skip)
    have H' := Aside0.mk H
    clear H
    go_wp2
    go_meet
    case rel => exact ⟨_, (decide (a0 ≤ 102)), z2, H', ⟨z21⟩, z6⟩
   ·rw [if_neg c5] at H
    have c5b0 : decide (97 ≤ a0) = false := decide_eq_false c5
    clear c5
    (first | rw [c5b0] | (simp only [i64_w, i32_w]; rw [c5b0]) | skip)
    have H' := Aside0.mk H
    clear H
    go_wp2
    go_meet
    case rel => exact ⟨_, (false), z2, H', ⟨z21⟩, z6⟩
  case rest =>
   clear HC4
   try clear c1
   try clear p2
   try clear c3
   try clear c5
   try clear c5b0
   obtain ⟨kq, x9_3, rfl, HA, HJ3, ⟨mc3, rfl⟩⟩ := hcut
   cases kq with
   | zero => exact absurd HA.out (by simp [impl_hexOf.j0])
   | succ kj3 =>
    have H := HA.out
    clear HA
    simp only [impl_hexOf.j0] at H
    by_cases c6 : x9_3 = true
    ·subst c6
     rw [if_pos rfl] at H
     obtain rfl := Option.some.inj H
     go_wp2
     go_ret
     exact ⟨z2, z6⟩
    ·replace c6 := Bool.eq_false_iff.mpr c6
     subst c6
     rw [if_neg Bool.false_ne_true] at H
     by_cases c7 : a0 ≥ 65
     ·rw [if_pos c7] at H
      have c7b0 : decide (65 ≤ a0) = true := decide_eq_true c7
      clear c7
      by_cases c8 : a0 ≤ 70
      ·rw [if_pos c8] at H
       have c8b0 : decide (a0 ≤ 70) = true := decide_eq_true c8
       clear c8
       obtain rfl := Option.some.inj H
       go_wp2
       go_ret
       exact ⟨z2, z6⟩
      ·rw [if_neg c8] at H
       have c8b0 : decide (a0 ≤ 70) = false := decide_eq_false c8
       clear c8
       obtain rfl := Option.some.inj H
       go_wp2
       go_ret
       exact ⟨z2, z6⟩
     ·rw [if_neg c7] at H
      have c7b0 : decide (65 ≤ a0) = false := decide_eq_false c7
      clear c7
      obtain rfl := Option.some.inj H
      go_wp2
      go_ret
      exact ⟨z2, z6⟩

/-! ### impl_isUpper: function 80 -/
def impl_isUpper.f (a0 : Int) : Option (Bool) := if a0 ≥ 65 then (some (decide (a0 ≤ 90))) else (some false)
set_option maxHeartbeats 8000000 in
set_option maxRecDepth 100000 in
theorem impl_isUpper.calls (a0 : Int) (r : Bool) (w : World) (h : impl_isUpper.f a0 = some r) :
  Calls Tryz.prog 80 #[.int .u8 a0] w fun e w' => e = .returned (.bool r) ∧ Drawn0 w w' := by
 have H : (if a0 ≥ 65 then (some (decide (a0 ≤ 90))) else (some false)) = some r := h
 clear h
 by_cases c2 : a0 ≥ 65
 ·rw [if_pos c2] at H
  have c2b0 : decide (65 ≤ a0) = true := decide_eq_true c2
  clear c2
  obtain rfl := Option.some.inj H
  go_enter Tryz.func80, Tryz.ntmps80
  go_wp2
  go_ret
  exact ⟨z2, z6⟩
 ·rw [if_neg c2] at H
  have c2b0 : decide (65 ≤ a0) = false := decide_eq_false c2
  clear c2
  obtain rfl := Option.some.inj H
  go_enter Tryz.func80, Tryz.ntmps80
  go_wp2
  go_ret
  exact ⟨z2, z6⟩

/-! ### impl_isLower: function 138 -/
def impl_isLower.f (a0 : Int) : Option (Bool) := if a0 ≥ 97 then (some (decide (a0 ≤ 122))) else (some false)
set_option maxHeartbeats 8000000 in
set_option maxRecDepth 100000 in
theorem impl_isLower.calls (a0 : Int) (r : Bool) (w : World) (h : impl_isLower.f a0 = some r) :
  Calls Tryz.prog 138 #[.int .u8 a0] w fun e w' => e = .returned (.bool r) ∧ Drawn0 w w' := by
 have H : (if a0 ≥ 97 then (some (decide (a0 ≤ 122))) else (some false)) = some r := h
 clear h
 by_cases c2 : a0 ≥ 97
 ·rw [if_pos c2] at H
  have c2b0 : decide (97 ≤ a0) = true := decide_eq_true c2
  clear c2
  obtain rfl := Option.some.inj H
  go_enter Tryz.func138, Tryz.ntmps138
  go_wp2
  go_ret
  exact ⟨z2, z6⟩
 ·rw [if_neg c2] at H
  have c2b0 : decide (97 ≤ a0) = false := decide_eq_false c2
  clear c2
  obtain rfl := Option.some.inj H
  go_enter Tryz.func138, Tryz.ntmps138
  go_wp2
  go_ret
  exact ⟨z2, z6⟩

/-! ### impl_isFree: function 111 -/
def impl_isFree.f (a0 : Int) : Option (Bool) := (impl_isLower.f a0).bind fun t158 => (if t158 = true then (some true) else ((impl_isUpper.f a0).bind fun t159 => (if t159 = true then (some true) else ((impl_isDigit.f a0).bind fun t160 => (if t160 = true then (some true) else (if a0 = 45 then (some true) else (if a0 = 46 then (some true) else (if a0 = 95 then (some true) else (some (a0 == 126))))))))))
set_option maxHeartbeats 8000000 in
set_option maxRecDepth 100000 in
theorem impl_isFree.calls (a0 : Int) (r : Bool) (w : World) (h : impl_isFree.f a0 = some r) :
  Calls Tryz.prog 111 #[.int .u8 a0] w fun e w' => e = .returned (.bool r) ∧ Drawn0 w w' := by
 have H : ((impl_isLower.f a0).bind fun t158 => (if t158 = true then (some true) else ((impl_isUpper.f a0).bind fun t159 => (if t159 = true then (some true) else ((impl_isDigit.f a0).bind fun t160 => (if t160 = true then (some true) else (if a0 = 45 then (some true) else (if a0 = 46 then (some true) else (if a0 = 95 then (some true) else (some (a0 == 126))))))))))) = some r := h
 clear h
 replace H := Option.bind_eq_some_iff.mp H
 obtain ⟨t158, A20, H⟩ := H
 try dsimp only at H
 have A2 := Aside0.mk A20
 clear A20
 by_cases c3 : t158 = true
 ·subst c3
  rw [if_pos rfl] at H
  obtain rfl := Option.some.inj H
  go_enter Tryz.func111, Tryz.ntmps111
  go_wp2_with (first | ((with_reducible refine gate_callee (f := 138) rfl ?_); refine goesQ_ 4 Tryz.func138 #[.int .u8 a0] ?_; (with_reducible refine (impl_isLower.calls a0 true _ A2.out).mono ?_); rintro e w' ⟨rfl, ⟨nd, rfl⟩⟩; refine ⟨_, rfl, ?_⟩))
  go_ret
  exact ⟨z2, z6⟩
 ·replace c3 := Bool.eq_false_iff.mpr c3
  subst c3
  rw [if_neg Bool.false_ne_true] at H
  replace H := Option.bind_eq_some_iff.mp H
  obtain ⟨t159, A40, H⟩ := H
  try dsimp only at H
  have A4 := Aside0.mk A40
  clear A40
  by_cases c5 : t159 = true
  ·subst c5
   rw [if_pos rfl] at H
   obtain rfl := Option.some.inj H
   go_enter Tryz.func111, Tryz.ntmps111
   go_wp2_with (first | ((with_reducible refine gate_callee (f := 138) rfl ?_); refine goesQ_ 4 Tryz.func138 #[.int .u8 a0] ?_; (with_reducible refine (impl_isLower.calls a0 false _ A2.out).mono ?_); rintro e w' ⟨rfl, ⟨nd, rfl⟩⟩; refine ⟨_, rfl, ?_⟩) | (go_at_call 80; (with_reducible refine (impl_isUpper.calls a0 true _ A4.out).mono ?_); rintro e w' ⟨rfl, ⟨nd, rfl⟩⟩))
   go_ret
   exact ⟨z2, z6⟩
  ·replace c5 := Bool.eq_false_iff.mpr c5
   subst c5
   rw [if_neg Bool.false_ne_true] at H
   replace H := Option.bind_eq_some_iff.mp H
   obtain ⟨t160, A60, H⟩ := H
   try dsimp only at H
   have A6 := Aside0.mk A60
   clear A60
   by_cases c7 : t160 = true
   ·subst c7
    rw [if_pos rfl] at H
    obtain rfl := Option.some.inj H
    go_enter Tryz.func111, Tryz.ntmps111
    go_wp2_with (first | ((with_reducible refine gate_callee (f := 138) rfl ?_); refine goesQ_ 4 Tryz.func138 #[.int .u8 a0] ?_; (with_reducible refine (impl_isLower.calls a0 false _ A2.out).mono ?_); rintro e w' ⟨rfl, ⟨nd, rfl⟩⟩; refine ⟨_, rfl, ?_⟩) | (go_at_call 80; (with_reducible refine (impl_isUpper.calls a0 false _ A4.out).mono ?_); rintro e w' ⟨rfl, ⟨nd, rfl⟩⟩) | (go_at_call 139; (with_reducible refine (impl_isDigit.calls a0 true _ A6.out).mono ?_); rintro e w' ⟨rfl, ⟨nd, rfl⟩⟩))
    go_ret
    exact ⟨z2, z6⟩
   ·replace c7 := Bool.eq_false_iff.mpr c7
    subst c7
    rw [if_neg Bool.false_ne_true] at H
    by_cases c8 : a0 = 45
    ·rw [if_pos c8] at H
     have c8b0 : (a0 == 45) = true := beq_iff_eq.mpr c8
     have c8b1 : (a0 != 45) = false := bne_eq_false_iff_eq.mpr c8
     clear c8
     obtain rfl := Option.some.inj H
     go_enter Tryz.func111, Tryz.ntmps111
     go_wp2_with (first | ((with_reducible refine gate_callee (f := 138) rfl ?_); refine goesQ_ 4 Tryz.func138 #[.int .u8 a0] ?_; (with_reducible refine (impl_isLower.calls a0 false _ A2.out).mono ?_); rintro e w' ⟨rfl, ⟨nd, rfl⟩⟩; refine ⟨_, rfl, ?_⟩) | (go_at_call 80; (with_reducible refine (impl_isUpper.calls a0 false _ A4.out).mono ?_); rintro e w' ⟨rfl, ⟨nd, rfl⟩⟩) | (go_at_call 139; (with_reducible refine (impl_isDigit.calls a0 false _ A6.out).mono ?_); rintro e w' ⟨rfl, ⟨nd, rfl⟩⟩))
     go_ret
     exact ⟨z2, z6⟩
    ·rw [if_neg c8] at H
     have c8b0 : (a0 == 45) = false := beq_eq_false_iff_ne.mpr c8
     have c8b1 : (a0 != 45) = true := bne_iff_ne.mpr c8
     by_cases c9 : a0 = 46
     ·rw [if_pos c9] at H
      have c9b0 : (a0 == 46) = true := beq_iff_eq.mpr c9
      have c9b1 : (a0 != 46) = false := bne_eq_false_iff_eq.mpr c9
      clear c9
      obtain rfl := Option.some.inj H
      go_enter Tryz.func111, Tryz.ntmps111
      go_wp2_with (first | ((with_reducible refine gate_callee (f := 138) rfl ?_); refine goesQ_ 4 Tryz.func138 #[.int .u8 a0] ?_; (with_reducible refine (impl_isLower.calls a0 false _ A2.out).mono ?_); rintro e w' ⟨rfl, ⟨nd, rfl⟩⟩; refine ⟨_, rfl, ?_⟩) | (go_at_call 80; (with_reducible refine (impl_isUpper.calls a0 false _ A4.out).mono ?_); rintro e w' ⟨rfl, ⟨nd, rfl⟩⟩) | (go_at_call 139; (with_reducible refine (impl_isDigit.calls a0 false _ A6.out).mono ?_); rintro e w' ⟨rfl, ⟨nd, rfl⟩⟩))
      go_ret
      exact ⟨z2, z6⟩
     ·rw [if_neg c9] at H
      have c9b0 : (a0 == 46) = false := beq_eq_false_iff_ne.mpr c9
      have c9b1 : (a0 != 46) = true := bne_iff_ne.mpr c9
      by_cases c10 : a0 = 95
      ·rw [if_pos c10] at H
       have c10b0 : (a0 == 95) = true := beq_iff_eq.mpr c10
       have c10b1 : (a0 != 95) = false := bne_eq_false_iff_eq.mpr c10
       clear c10
       obtain rfl := Option.some.inj H
       go_enter Tryz.func111, Tryz.ntmps111
       go_wp2_with (first | ((with_reducible refine gate_callee (f := 138) rfl ?_); refine goesQ_ 4 Tryz.func138 #[.int .u8 a0] ?_; (with_reducible refine (impl_isLower.calls a0 false _ A2.out).mono ?_); rintro e w' ⟨rfl, ⟨nd, rfl⟩⟩; refine ⟨_, rfl, ?_⟩) | (go_at_call 80; (with_reducible refine (impl_isUpper.calls a0 false _ A4.out).mono ?_); rintro e w' ⟨rfl, ⟨nd, rfl⟩⟩) | (go_at_call 139; (with_reducible refine (impl_isDigit.calls a0 false _ A6.out).mono ?_); rintro e w' ⟨rfl, ⟨nd, rfl⟩⟩))
       go_ret
       exact ⟨z2, z6⟩
      ·rw [if_neg c10] at H
       have c10b0 : (a0 == 95) = false := beq_eq_false_iff_ne.mpr c10
       have c10b1 : (a0 != 95) = true := bne_iff_ne.mpr c10
       obtain rfl := Option.some.inj H
       go_enter Tryz.func111, Tryz.ntmps111
       go_wp2_with (first | ((with_reducible refine gate_callee (f := 138) rfl ?_); refine goesQ_ 4 Tryz.func138 #[.int .u8 a0] ?_; (with_reducible refine (impl_isLower.calls a0 false _ A2.out).mono ?_); rintro e w' ⟨rfl, ⟨nd, rfl⟩⟩; refine ⟨_, rfl, ?_⟩) | (go_at_call 80; (with_reducible refine (impl_isUpper.calls a0 false _ A4.out).mono ?_); rintro e w' ⟨rfl, ⟨nd, rfl⟩⟩) | (go_at_call 139; (with_reducible refine (impl_isDigit.calls a0 false _ A6.out).mono ?_); rintro e w' ⟨rfl, ⟨nd, rfl⟩⟩))
       go_ret
       exact ⟨z2, z6⟩

end Go.Proofs.YtcplgnikihjilaaGreatDoor.GFnCleans
