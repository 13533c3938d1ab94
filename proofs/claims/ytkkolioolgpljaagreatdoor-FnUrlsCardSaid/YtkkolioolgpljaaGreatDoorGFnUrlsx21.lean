-- Laid by gen.py of this session (over the kit's printing program): what the law FnUrls reaches, as Lean functions, and that Go comes to just that.
import Derived.Test.YtkkolioolgpljaaGreatDoorGFnUrlsx0
import Derived.Test.YtkkolioolgpljaaGreatDoorGFnUrlsx14
import Derived.Test.YtkkolioolgpljaaGreatDoorGFnUrlsx17
import Derived.Test.YtkkolioolgpljaaGreatDoorZFnUrls
namespace Go.Proofs.YtkkolioolgpljaaGreatDoor.GFnUrls
open Go.RowKit Go.Proofs.YtkkolioolgpljaaGreatDoorW.PrintWords Go.Proofs.YtkkolioolgpljaaGreatDoorW.PrintLast Go.Proofs.YtkkolioolgpljaaGreatDoorW.PrintMore Go.Proofs.YtkkolioolgpljaaGreatDoorW.Zs
attribute [local go_sem] max2_int min2_int max_two min_two max_three min_three max_four min_four   -- for this text's walks alone
set_option linter.unusedVariables false
set_option linter.unusedSimpArgs false

/-! ### impl_DecText: function 70 -/
def impl_DecText.f (a0 : Int) : Option (ByteArray) := (impl_within.f a0 0 999999999999999).bind fun t431 => (if t431 = true then ((strconv_Itoa.f a0).bind fun t432 => (some t432)) else (some (⟨#[]⟩ : ByteArray)))
set_option maxHeartbeats 8000000 in
set_option maxRecDepth 100000 in
theorem impl_DecText.calls (a0 : Int) (r : ByteArray) (w : World) (hG : Gl w) (h : impl_DecText.f a0 = some r) :
  Calls Tryz.prog 70 #[.int .i64 a0] w fun e w' => e = .returned (.string r) ∧ Below w.heap.size w w' := by
 have HG := Aside0.mk hG; clear hG; have HB := Aside0.mk (Below.refl w.heap.size w); have H : ((impl_within.f a0 0 999999999999999).bind fun t431 => (if t431 = true then ((strconv_Itoa.f a0).bind fun t432 => (some t432)) else (some (⟨#[]⟩ : ByteArray)))) = some r := h; clear h; replace H := Option.bind_eq_some_iff.mp H; obtain ⟨t431, A20, H⟩ := H; (try dsimp only at H); have A2 := Aside0.mk A20; clear A20
 by_cases c3 : t431 = true
 ·subst c3; rw [if_pos rfl] at H; replace H := Option.bind_eq_some_iff.mp H; obtain ⟨t432, A40, H⟩ := H; (try dsimp only at H); have A4 := Aside0.mk A40; clear A40; obtain rfl := Option.some.inj H; go_enter Tryz.func70, Tryz.ntmps70
  go_wp2_with (first | ((with_reducible refine gate_callee (f := 55) rfl ?_); refine goesR_ 4 Tryz.func55 #[.int .i64 a0, .int .i64 0, .int .i64 999999999999999] (impl_within.calls a0 0 999999999999999 true _ A2.out) ?_; rintro w' ⟨nd, rfl⟩) | ((with_reducible refine gate_callee (f := 61) rfl ?_); refine goesQ_ 7 Tryz.func61 #[.int .i64 a0] ?_; (with_reducible refine (strconv_Itoa.calls a0 t432 _ ?side1 A4.out).mono ?_); (case side1 => exact Gl.below HG.out z0); rintro e w5 ⟨rfl, hb⟩; refine ⟨_, rfl, ?_⟩; replace HB := Aside0.mk (below_step z0 hb); (try clear hb)))
  go_ret; exact ⟨z2, z0⟩
 ·replace c3 := Bool.eq_false_iff.mpr c3; subst c3; rw [if_neg Bool.false_ne_true] at H; obtain rfl := Option.some.inj H; go_enter Tryz.func70, Tryz.ntmps70
  go_wp2_with (first | ((with_reducible refine gate_callee (f := 55) rfl ?_); refine goesR_ 4 Tryz.func55 #[.int .i64 a0, .int .i64 0, .int .i64 999999999999999] (impl_within.calls a0 0 999999999999999 false _ A2.out) ?_; rintro w' ⟨nd, rfl⟩))
  go_ret; exact ⟨z2, z0⟩

/-! ### impl_ReadDec: function 37 -/
def impl_ReadDec.ok (l : List UInt8) : Int × Bool := match Lib.atoiAll l with
 | .ok v => if 0 ≤ v ∧ v ≤ 999999999999999 ∧ Lib.itoa v = l then (v, true) else (0, false)
 | _ => (0, false)
def impl_ReadDec.f (a0 : ByteArray) : Option (Int × Bool) := if a0.size ≤ 1099511627776 then some (impl_ReadDec.ok a0.data.toList) else none
theorem impl_ReadDec_text (v : Int) (h0 : 0 ≤ v) (h1 : v ≤ 999999999999999) : impl_DecText.f v = some ⟨(Lib.itoa v).toArray⟩ := by
 unfold impl_DecText.f impl_within.f strconv_Itoa.f
 simp [h0, h1, show -9223372036854775808 ≤ v by omega, show v ≤ 9223372036854775807 by omega]
set_option maxHeartbeats 8000000 in
set_option maxRecDepth 100000 in
theorem impl_ReadDec.calls (a0 : ByteArray) (r1 : Int) (r2 : Bool) (w : World) (hG : Gl w) (h : impl_ReadDec.f a0 = some (r1, r2)) :
  Calls Tryz.prog 37 #[.string a0] w fun e w' => e = .returned (.tuple #[.int .i64 r1, .bool r2]) ∧ Below w.heap.size w w' := by
 unfold impl_ReadDec.f at h
 by_cases hlim : a0.size ≤ 1099511627776
 ·rw [if_pos hlim] at h; have H := Option.some.inj h; clear h; have HG := Aside0.mk hG; clear hG; unfold impl_ReadDec.ok at H
  cases hA : Lib.atoiAll a0.data.toList with
  | «syntax» =>
   rw [hA] at H; obtain ⟨rfl, rfl⟩ : _ ∧ _ := by simpa only [Prod.mk.injEq] using H
   obtain ⟨tp, p, hv⟩ := HG.out.errS; go_enter Tryz.func37, Tryz.ntmps37
   go_wp2_with (go_at_call 69; refine (Tryz.strconv_Atoi_syntax_var a0 (by omega) hA tp p w hv).mono ?_; rintro e w' ⟨N, rfl, _, _, hb⟩)
   go_ret2
   exact ⟨rfl, hb⟩
  | range =>
   rw [hA] at H; obtain ⟨rfl, rfl⟩ : _ ∧ _ := by simpa only [Prod.mk.injEq] using H
   obtain ⟨tp, p, hv⟩ := HG.out.errR; go_enter Tryz.func37, Tryz.ntmps37
   go_wp2_with (go_at_call 69; refine (Tryz.strconv_Atoi_range_var a0 (by omega) hA tp p w hv).mono ?_; rintro e w' ⟨N, rfl, _, _, hb⟩)
   go_ret2
   exact ⟨rfl, hb⟩
  | ok v =>
   rw [hA] at H
   have hat := (Tryz.strconv_Atoi_ok a0 (by omega) v hA w).mono (R' := fun e w' => e = .returned (.tuple #[.int .i64 v, .nilIface]) ∧ Below w.heap.size w w') (by
    rintro e w' ⟨he, hw | ⟨t, hw⟩⟩
    ·subst hw; exact ⟨he, Below.refl _ _⟩
    ·subst hw; exact ⟨he, bytes_below (Below.refl _ _) (Nat.le_refl _) _ _⟩)
   by_cases hv : 0 ≤ v ∧ v ≤ 999999999999999
   ·have hw : impl_within.f v 0 999999999999999 = some true := by unfold impl_within.f; rw [if_pos hv.1, decide_eq_true hv.2]
    have hd := impl_ReadDec_text v hv.1 hv.2; have HV := Aside0.mk hv; clear hv
    by_cases he : Lib.itoa v = a0.data.toList
    ·have hr : (v, true) = (r1, r2) := by rw [← H]; exact (if_pos ⟨HV.out.1, HV.out.2, he⟩).symm
     obtain ⟨rfl, rfl⟩ : _ ∧ _ := by simpa only [Prod.mk.injEq] using hr
     have he2 : (⟨(Lib.itoa v).toArray⟩ : ByteArray) = a0 := by rw [he]
     rw [he2] at hd; clear H hr he he2; go_enter Tryz.func37, Tryz.ntmps37
     go_wp2_with (first | (go_at_call 69; refine hat.mono ?_; rintro e w1 ⟨rfl, hb1⟩; have HB1 := Aside0.mk hb1; clear hb1) | (go_at_call 55; refine (impl_within.calls v 0 999999999999999 true _ hw).mono ?_; rintro e w2 ⟨rfl, ⟨nd, rfl⟩⟩) | (go_at_call 70; refine (impl_DecText.calls v a0 _ (HG.out.below (pw_below_drewN HB1.out nd)) hd).mono ?_; rintro e w3 ⟨rfl, hb3⟩; have HB3 := Aside0.mk hb3; clear hb3))
     go_ret2
     exact ⟨rfl, (pw_below_drewN HB1.out nd).trans (HB3.out.mono (by have := HB1.out.size; simpa using this))⟩
    ·have hr : (0, false) = (r1, r2) := by rw [← H]; exact (if_neg (fun hh => he hh.2.2)).symm
     obtain ⟨rfl, rfl⟩ : _ ∧ _ := by simpa only [Prod.mk.injEq] using hr
     obtain ⟨d, hdd⟩ : ∃ d : ByteArray, (⟨(Lib.itoa v).toArray⟩ : ByteArray) = d := ⟨_, rfl⟩
     have hne : ¬ d.toList = a0.toList := by
      rw [← hdd, ByteArray.toList_eq, ByteArray.toList_eq]; exact fun hh => he (by simpa using hh)
     have hnf := eq_false hne; have hnb : (d.toList == a0.toList) = false := beq_eq_false_iff_ne.2 hne; rw [hdd] at hd; clear H hr he hdd; go_enter Tryz.func37, Tryz.ntmps37
     go_wp2_with (first | (go_at_call 69; refine hat.mono ?_; rintro e w1 ⟨rfl, hb1⟩; have HB1 := Aside0.mk hb1; clear hb1) | (go_at_call 55; refine (impl_within.calls v 0 999999999999999 true _ hw).mono ?_; rintro e w2 ⟨rfl, ⟨nd, rfl⟩⟩) | (go_at_call 70; refine (impl_DecText.calls v d _ (HG.out.below (pw_below_drewN HB1.out nd)) hd).mono ?_; rintro e w3 ⟨rfl, hb3⟩; have HB3 := Aside0.mk hb3; clear hb3))
     go_ret2
     exact ⟨rfl, (pw_below_drewN HB1.out nd).trans (HB3.out.mono (by have := HB1.out.size; simpa using this))⟩
   ·have hw : impl_within.f v 0 999999999999999 = some false := by
     unfold impl_within.f
     split
     ·rw [decide_eq_false (by omega)]
     ·rfl
    have hr : (0, false) = (r1, r2) := by rw [← H]; exact (if_neg (fun hh => hv ⟨hh.1, hh.2.1⟩)).symm
    obtain ⟨rfl, rfl⟩ : _ ∧ _ := by simpa only [Prod.mk.injEq] using hr
    clear H hr hv; go_enter Tryz.func37, Tryz.ntmps37
    go_wp2_with (first | (go_at_call 69; refine hat.mono ?_; rintro e w1 ⟨rfl, hb1⟩; have HB1 := Aside0.mk hb1; clear hb1) | (go_at_call 55; refine (impl_within.calls v 0 999999999999999 false _ hw).mono ?_; rintro e w2 ⟨rfl, ⟨nd, rfl⟩⟩))
    go_ret2
    exact ⟨rfl, pw_below_drewN HB1.out nd⟩
 ·rw [if_neg hlim] at h; cases h


end Go.Proofs.YtkkolioolgpljaaGreatDoor.GFnUrls
