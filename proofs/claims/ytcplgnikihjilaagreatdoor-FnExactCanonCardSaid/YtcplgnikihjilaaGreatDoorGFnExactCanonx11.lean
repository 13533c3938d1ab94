-- Laid by gen.py of this session (over the kit's printing program): what the law FnExactCanon reaches, as Lean functions, and that Go comes to just that.
import Derived.Test.YtcplgnikihjilaaGreatDoorGFnExactCanonx0
import Derived.Test.YtcplgnikihjilaaGreatDoorGFnExactCanonx8
import Derived.Test.YtcplgnikihjilaaGreatDoorGFnExactCanonx10
import Derived.Test.YtcplgnikihjilaaGreatDoorZFnExactCanon
namespace Go.Proofs.YtcplgnikihjilaaGreatDoor.GFnExactCanon
open Go.RowKit Go.Proofs.YtcplgnikihjilaaGreatDoorW.PrintWords Go.Proofs.YtcplgnikihjilaaGreatDoorW.PrintLast Go.Proofs.YtcplgnikihjilaaGreatDoorW.PrintMore Go.Proofs.YtcplgnikihjilaaGreatDoorW.Zs
attribute [local go_sem] max2_int min2_int max_two min_two max_three min_three max_four min_four   -- for this text's walks alone
set_option linter.unusedVariables false
set_option linter.unusedSimpArgs false

/-! ### impl_ReadDec: function 40 -/
def impl_ReadDec.ok (l : List UInt8) : Int × Bool := match Lib.atoiAll l with
 | .ok v => if 0 ≤ v ∧ v ≤ 999999999999999 ∧ Lib.itoa v = l then (v, true) else (0, false)
 | _ => (0, false)
def impl_ReadDec.f (a0 : ByteArray) : Option (Int × Bool) := if a0.size ≤ 1099511627776 then some (impl_ReadDec.ok a0.data.toList) else none
theorem impl_ReadDec_text (v : Int) (h0 : 0 ≤ v) (h1 : v ≤ 999999999999999) : impl_DecText.f v = some ⟨(Lib.itoa v).toArray⟩ := by
 unfold impl_DecText.f impl_within.f strconv_Itoa.f
 simp [h0, h1, show -9223372036854775808 ≤ v by omega, show v ≤ 9223372036854775807 by omega]
set_option maxHeartbeats 8000000 in
set_option maxRecDepth 100000 in
theorem impl_ReadDec.calls (a0 : ByteArray) (r1 : Int) (r2 : Bool) (w : World) (hG : Gl w) (h : impl_ReadDec.f a0 = some (r1, r2)) :
  Calls Tryz.prog 40 #[.string a0] w fun e w' => e = .returned (.tuple #[.int .i64 r1, .bool r2]) ∧ Below w.heap.size w w' := by
 unfold impl_ReadDec.f at h
 by_cases hlim : a0.size ≤ 1099511627776
 ·rw [if_pos hlim] at h
  have H := Option.some.inj h
  clear h
  have HG := Aside0.mk hG
  clear hG
  unfold impl_ReadDec.ok at H
  cases hA : Lib.atoiAll a0.data.toList with
  | «syntax» =>
   rw [hA] at H
   obtain ⟨rfl, rfl⟩ : _ ∧ _ := by simpa only [Prod.mk.injEq] using H
   obtain ⟨tp, p, hv⟩ := HG.out.errS
   go_enter Tryz.func40, Tryz.ntmps40
   go_wp2_with (go_at_call 86; refine (Tryz.strconv_Atoi_syntax_var a0 (by omega) hA tp p w hv).mono ?_; rintro e w' ⟨N, rfl, _, _, hb⟩)
   go_ret2
   exact ⟨rfl, hb⟩
  | range =>
   rw [hA] at H
   obtain ⟨rfl, rfl⟩ : _ ∧ _ := by simpa only [Prod.mk.injEq] using H
   obtain ⟨tp, p, hv⟩ := HG.out.errR
   go_enter Tryz.func40, Tryz.ntmps40
   go_wp2_with (go_at_call 86; refine (Tryz.strconv_Atoi_range_var a0 (by omega) hA tp p w hv).mono ?_; rintro e w' ⟨N, rfl, _, _, hb⟩)
   go_ret2
   exact ⟨rfl, hb⟩
  | ok v =>
   rw [hA] at H
   have hat := (Tryz.strconv_Atoi_ok a0 (by omega) v hA w).mono (R' := fun e w' => e = .returned (.tuple #[.int .i64 v, .nilIface]) ∧ Below w.heap.size w w') (by
    rintro e w' ⟨he, hw | ⟨t, hw⟩⟩
    ·subst hw; exact ⟨he, Below.refl _ _⟩
    ·subst hw; exact ⟨he, bytes_below (Below.refl _ _) (Nat.le_refl _) _ _⟩)
   by_cases hv : 0 ≤ v ∧ v ≤ 999999999999999
   ·have hw : impl_within.f v 0 999999999999999 = some true := by unfold impl_within.f; rw [if_pos hv.1, decide_eq_true hv.2]
    have hd := impl_ReadDec_text v hv.1 hv.2
    have HV := Aside0.mk hv
    clear hv
    by_cases he : Lib.itoa v = a0.data.toList
    ·have hr : (v, true) = (r1, r2) := by rw [← H]; exact (if_pos ⟨HV.out.1, HV.out.2, he⟩).symm
     obtain ⟨rfl, rfl⟩ : _ ∧ _ := by simpa only [Prod.mk.injEq] using hr
     have he2 : (⟨(Lib.itoa v).toArray⟩ : ByteArray) = a0 := by rw [he]
     rw [he2] at hd
     clear H hr he he2
     go_enter Tryz.func40, Tryz.ntmps40
     go_wp2_with (first | (go_at_call 86; refine hat.mono ?_; rintro e w1 ⟨rfl, hb1⟩; have HB1 := Aside0.mk hb1; clear hb1) | (go_at_call 65; refine (impl_within.calls v 0 999999999999999 true _ hw).mono ?_; rintro e w2 ⟨rfl, ⟨nd, rfl⟩⟩) | (go_at_call 87; refine (impl_DecText.calls v a0 _ (HG.out.below (pw_below_drewN HB1.out nd)) hd).mono ?_; rintro e w3 ⟨rfl, hb3⟩; have HB3 := Aside0.mk hb3; clear hb3))
     go_ret2
     exact ⟨rfl, (pw_below_drewN HB1.out nd).trans (HB3.out.mono (by have := HB1.out.size; simpa using this))⟩
    ·have hr : (0, false) = (r1, r2) := by rw [← H]; exact (if_neg (fun hh => he hh.2.2)).symm
     obtain ⟨rfl, rfl⟩ : _ ∧ _ := by simpa only [Prod.mk.injEq] using hr
     obtain ⟨d, hdd⟩ : ∃ d : ByteArray, (⟨(Lib.itoa v).toArray⟩ : ByteArray) = d := ⟨_, rfl⟩
     have hne : ¬ d.toList = a0.toList := by
      rw [← hdd, ByteArray.toList_eq, ByteArray.toList_eq]
      exact fun hh => he (by simpa using hh)
     have hnf := eq_false hne
     have hnb : (d.toList == a0.toList) = false := beq_eq_false_iff_ne.2 hne
     rw [hdd] at hd
     clear H hr he hdd
     go_enter Tryz.func40, Tryz.ntmps40
     go_wp2_with (first | (go_at_call 86; refine hat.mono ?_; rintro e w1 ⟨rfl, hb1⟩; have HB1 := Aside0.mk hb1; clear hb1) | (go_at_call 65; refine (impl_within.calls v 0 999999999999999 true _ hw).mono ?_; rintro e w2 ⟨rfl, ⟨nd, rfl⟩⟩) | (go_at_call 87; refine (impl_DecText.calls v d _ (HG.out.below (pw_below_drewN HB1.out nd)) hd).mono ?_; rintro e w3 ⟨rfl, hb3⟩; have HB3 := Aside0.mk hb3; clear hb3))
     go_ret2
     exact ⟨rfl, (pw_below_drewN HB1.out nd).trans (HB3.out.mono (by have := HB1.out.size; simpa using this))⟩
   ·have hw : impl_within.f v 0 999999999999999 = some false := by
     unfold impl_within.f
     split
     ·rw [decide_eq_false (by omega)]
     ·rfl
    have hr : (0, false) = (r1, r2) := by rw [← H]; exact (if_neg (fun hh => hv ⟨hh.1, hh.2.1⟩)).symm
    obtain ⟨rfl, rfl⟩ : _ ∧ _ := by simpa only [Prod.mk.injEq] using hr
    clear H hr hv
    go_enter Tryz.func40, Tryz.ntmps40
    go_wp2_with (first | (go_at_call 86; refine hat.mono ?_; rintro e w1 ⟨rfl, hb1⟩; have HB1 := Aside0.mk hb1; clear hb1) | (go_at_call 65; refine (impl_within.calls v 0 999999999999999 false _ hw).mono ?_; rintro e w2 ⟨rfl, ⟨nd, rfl⟩⟩))
    go_ret2
    exact ⟨rfl, pw_below_drewN HB1.out nd⟩
 ·rw [if_neg hlim] at h; cases h


/-! ### impl_portText: function 96 -/
def impl_portText.f (a0_0 : ByteArray) (a0_1 : Int) (a0_2 : ByteArray) (a0_3 : ByteArray) (a0_4 : Bool) : Option (ByteArray) := if a0_1 = 80 then (some (⟨#[]⟩ : ByteArray)) else ((strconv_Itoa.f a0_1).bind fun t266 => (if 1 + t266.size ≤ 9223372036854775807 then (some ((⟨#[58]⟩ : ByteArray) ++ t266)) else (none)))
set_option maxHeartbeats 8000000 in
set_option maxRecDepth 100000 in
theorem impl_portText.calls (a0_0 : ByteArray) (a0_1 : Int) (a0_2 : ByteArray) (a0_3 : ByteArray) (a0_4 : Bool) (r : ByteArray) (w : World) (hG : Gl w) (h : impl_portText.f a0_0 a0_1 a0_2 a0_3 a0_4 = some r) :
  Calls Tryz.prog 96 #[.agg #[.string a0_0, .int .i64 a0_1, .string a0_2, .string a0_3, .bool a0_4]] w fun e w' => e = .returned (.string r) ∧ Below w.heap.size w w' := by
 have hu23 := Tryz.underlying23
 have HG := Aside0.mk hG
 clear hG
 have HB := Aside0.mk (Below.refl w.heap.size w)
 have H : (if a0_1 = 80 then (some (⟨#[]⟩ : ByteArray)) else ((strconv_Itoa.f a0_1).bind fun t266 => (if 1 + t266.size ≤ 9223372036854775807 then (some ((⟨#[58]⟩ : ByteArray) ++ t266)) else (none)))) = some r := h
 clear h
 by_cases c2 : a0_1 = 80
 ·rw [if_pos c2] at H
  have c2b0 : (a0_1 == 80) = true := beq_iff_eq.mpr c2
  have c2b1 : (a0_1 != 80) = false := bne_eq_false_iff_eq.mpr c2
  clear c2
  obtain rfl := Option.some.inj H
  go_enter Tryz.func96, Tryz.ntmps96
  go_wp2_with (first | ((with_reducible refine gate_dst (N := 1) rfl ?_); refine boxP_ (N := 1) (cs := #[.string a0_0, .int .i64 a0_1, .string a0_2, .string a0_3, .bool a0_4]) (t := 23) ?_; intro gb265 hg w3 hbox hb; have BK265 := Aside0.mk (hbox); have GE265 := geb_ (w := w) hg z0; replace HB := Aside0.mk (below_step z0 hb); clear hb hbox hg; obtain ⟨hcz4_0, hcz4_1, hcz4_2, hcz4_3, hcz4_4, hfz4_0, hfz4_1, hfz4_2, hfz4_3, hfz4_4⟩ := cells5_ BK265.out))
  go_ret
  exact ⟨z3, z37⟩
 ·rw [if_neg c2] at H
  have c2b0 : (a0_1 == 80) = false := beq_eq_false_iff_ne.mpr c2
  have c2b1 : (a0_1 != 80) = true := bne_iff_ne.mpr c2
  replace H := Option.bind_eq_some_iff.mp H
  obtain ⟨t266, A50, H⟩ := H
  try dsimp only at H
  have A5 := Aside0.mk A50
  clear A50
  by_cases c6 : 1 + t266.size ≤ 9223372036854775807
  ·rw [if_pos c6] at H
   have c6b0 := eq_true c6
   have c6b1 : decide (1 + t266.size ≤ 9223372036854775807) = true := decide_eq_true c6
   try have c6b2 : (9223372036854775807 < 1 + t266.size) = False := eq_false (Nat.not_lt.2 c6)
   obtain rfl := Option.some.inj H
   go_enter Tryz.func96, Tryz.ntmps96
   go_wp2_with (first | ((with_reducible refine gate_dst (N := 1) rfl ?_); refine boxP_ (N := 1) (cs := #[.string a0_0, .int .i64 a0_1, .string a0_2, .string a0_3, .bool a0_4]) (t := 23) ?_; intro gb265 hg w7 hbox hb; have BK265 := Aside0.mk (hbox); have GE265 := geb_ (w := w) hg z0; replace HB := Aside0.mk (below_step z0 hb); clear hb hbox hg; obtain ⟨hcz8_0, hcz8_1, hcz8_2, hcz8_3, hcz8_4, hfz8_0, hfz8_1, hfz8_2, hfz8_3, hfz8_4⟩ := cells5_ BK265.out) | ((with_reducible refine gate_callee (f := 136) rfl ?_); refine goesQ_ 8 Tryz.func136 #[.int .i64 a0_1] ?_; (with_reducible refine (strconv_Itoa.calls a0_1 t266 _ ?side1 A5.out).mono ?_); (case side1 => exact Gl.below HG.out z37); rintro e w9 ⟨rfl, hb⟩; refine ⟨_, rfl, ?_⟩; replace BK265 := Aside0.mk (blk_below (g := gb265) (o := .cells #[.string a0_0, .int .i64 a0_1, .string a0_2, .string a0_3, .bool a0_4] 23 (0, 0)) (by (with_reducible repeat (first | refine blk_drewN ?_ _ | refine blk_drew ?_ | refine blk_alloc ?_ _)); exact BK265.out) hb); replace HB := Aside0.mk (below_step z37 hb); (try clear hb)))
   go_ret
   exact ⟨z3, z37⟩
  ·rw [if_neg c6] at H
   exact absurd H (by simp)

/-! ### impl_pathText: function 97 -/
def impl_pathText.f (a0_0 : ByteArray) (a0_1 : Int) (a0_2 : ByteArray) (a0_3 : ByteArray) (a0_4 : Bool) : Option (ByteArray) := if a0_4 = true then (if a0_2.size + 1 ≤ 9223372036854775807 then (if (a0_2 ++ (⟨#[63]⟩ : ByteArray)).size + a0_3.size ≤ 9223372036854775807 then (some ((a0_2 ++ (⟨#[63]⟩ : ByteArray)) ++ a0_3)) else (none)) else (none)) else (some a0_2)
set_option maxHeartbeats 8000000 in
set_option maxRecDepth 100000 in
theorem impl_pathText.calls (a0_0 : ByteArray) (a0_1 : Int) (a0_2 : ByteArray) (a0_3 : ByteArray) (a0_4 : Bool) (r : ByteArray) (w : World) (h : impl_pathText.f a0_0 a0_1 a0_2 a0_3 a0_4 = some r) :
  Calls Tryz.prog 97 #[.agg #[.string a0_0, .int .i64 a0_1, .string a0_2, .string a0_3, .bool a0_4]] w fun e w' => e = .returned (.string r) ∧ Below w.heap.size w w' := by
 have hu23 := Tryz.underlying23
 have HB := Aside0.mk (Below.refl w.heap.size w)
 have H : (if a0_4 = true then (if a0_2.size + 1 ≤ 9223372036854775807 then (if (a0_2 ++ (⟨#[63]⟩ : ByteArray)).size + a0_3.size ≤ 9223372036854775807 then (some ((a0_2 ++ (⟨#[63]⟩ : ByteArray)) ++ a0_3)) else (none)) else (none)) else (some a0_2)) = some r := h
 clear h
 by_cases c2 : a0_4 = true
 ·subst c2
  rw [if_pos rfl] at H
  by_cases c3 : a0_2.size + 1 ≤ 9223372036854775807
  ·rw [if_pos c3] at H
   have c3b0 := eq_true c3
   have c3b1 : decide (a0_2.size + 1 ≤ 9223372036854775807) = true := decide_eq_true c3
   try have c3b2 : (9223372036854775807 < a0_2.size + 1) = False := eq_false (Nat.not_lt.2 c3)
   by_cases c4 : (a0_2 ++ (⟨#[63]⟩ : ByteArray)).size + a0_3.size ≤ 9223372036854775807
   ·rw [if_pos c4] at H
    have c4b0 := eq_true c4
    have c4b1 : decide ((a0_2 ++ (⟨#[63]⟩ : ByteArray)).size + a0_3.size ≤ 9223372036854775807) = true := decide_eq_true c4
    try have c4b2 : (9223372036854775807 < (a0_2 ++ (⟨#[63]⟩ : ByteArray)).size + a0_3.size) = False := eq_false (Nat.not_lt.2 c4)
    try have c4z := c4b2; simp only [ByteArray.size_append, show (⟨#[63]⟩ : ByteArray).size = 1 from rfl] at c4z; have c4b3 := c4z
    obtain rfl := Option.some.inj H
    go_enter Tryz.func97, Tryz.ntmps97
    go_wp2_with (first | ((with_reducible refine gate_dst (N := 1) rfl ?_); refine boxP_ (N := 1) (cs := #[.string a0_0, .int .i64 a0_1, .string a0_2, .string a0_3, .bool true]) (t := 23) ?_; intro gb267 hg w5 hbox hb; have BK267 := Aside0.mk (hbox); have GE267 := geb_ (w := w) hg z0; replace HB := Aside0.mk (below_step z0 hb); clear hb hbox hg; obtain ⟨hcz6_0, hcz6_1, hcz6_2, hcz6_3, hcz6_4, hfz6_0, hfz6_1, hfz6_2, hfz6_3, hfz6_4⟩ := cells5_ BK267.out))
    go_ret
    exact ⟨z3, z67⟩
   ·rw [if_neg c4] at H
    exact absurd H (by simp)
  ·rw [if_neg c3] at H
   exact absurd H (by simp)
 ·replace c2 := Bool.eq_false_iff.mpr c2
  subst c2
  rw [if_neg Bool.false_ne_true] at H
  obtain rfl := Option.some.inj H
  go_enter Tryz.func97, Tryz.ntmps97
  go_wp2_with (first | ((with_reducible refine gate_dst (N := 1) rfl ?_); refine boxP_ (N := 1) (cs := #[.string a0_0, .int .i64 a0_1, .string a0_2, .string a0_3, .bool false]) (t := 23) ?_; intro gb267 hg w7 hbox hb; have BK267 := Aside0.mk (hbox); have GE267 := geb_ (w := w) hg z0; replace HB := Aside0.mk (below_step z0 hb); clear hb hbox hg; obtain ⟨hcz8_0, hcz8_1, hcz8_2, hcz8_3, hcz8_4, hfz8_0, hfz8_1, hfz8_2, hfz8_3, hfz8_4⟩ := cells5_ BK267.out))
  go_ret
  exact ⟨z3, z67⟩

/-! ### impl_urlText: function 49 -/
def impl_urlText.f (a0_0 : ByteArray) (a0_1 : Int) (a0_2 : ByteArray) (a0_3 : ByteArray) (a0_4 : Bool) : Option (ByteArray) := if 7 + a0_0.size ≤ 9223372036854775807 then ((impl_portText.f a0_0 a0_1 a0_2 a0_3 a0_4).bind fun t269 => (if ((⟨#[104, 116, 116, 112, 58, 47, 47]⟩ : ByteArray) ++ a0_0).size + t269.size ≤ 9223372036854775807 then ((impl_pathText.f a0_0 a0_1 a0_2 a0_3 a0_4).bind fun t270 => (if (((⟨#[104, 116, 116, 112, 58, 47, 47]⟩ : ByteArray) ++ a0_0) ++ t269).size + t270.size ≤ 9223372036854775807 then (some ((((⟨#[104, 116, 116, 112, 58, 47, 47]⟩ : ByteArray) ++ a0_0) ++ t269) ++ t270)) else (none))) else (none))) else (none)
def impl_urlText.T1 : Bool × List (List Nat × List Nat) := (true, [([], []), ([0], [0]), ([1], [1]), ([], []), ([3], [3]), ([2, 4], [2, 4]), ([], []), ([6, 4], [6]), ([5, 7], [5, 7]), ([8, 7, 0, 1, 2, 3, 4, 5, 6, 7, 8], [8])])
def impl_urlText.B1 : List Nat := [0, 1, 3, 0, 8, 31, 0, 88, 255, 511]
theorem impl_urlText.tab1 : rtab .any (opsOf Tryz.f49 1) = impl_urlText.T1 := by kernel_rfl
theorem impl_urlText.bits1 : waitsOk impl_urlText.T1.2 impl_urlText.B1 = true := by kernel_rfl
set_option maxHeartbeats 8000000 in
set_option maxRecDepth 100000 in
theorem impl_urlText.calls (a0_0 : ByteArray) (a0_1 : Int) (a0_2 : ByteArray) (a0_3 : ByteArray) (a0_4 : Bool) (r : ByteArray) (w : World) (hG : Gl w) (h : impl_urlText.f a0_0 a0_1 a0_2 a0_3 a0_4 = some r) :
  Calls Tryz.prog 49 #[.agg #[.string a0_0, .int .i64 a0_1, .string a0_2, .string a0_3, .bool a0_4]] w fun e w' => e = .returned (.string r) ∧ Below w.heap.size w w' := by
 have hu23 := Tryz.underlying23
 have HG := Aside0.mk hG
 clear hG
 have HB := Aside0.mk (Below.refl w.heap.size w)
 have H : (if 7 + a0_0.size ≤ 9223372036854775807 then ((impl_portText.f a0_0 a0_1 a0_2 a0_3 a0_4).bind fun t269 => (if ((⟨#[104, 116, 116, 112, 58, 47, 47]⟩ : ByteArray) ++ a0_0).size + t269.size ≤ 9223372036854775807 then ((impl_pathText.f a0_0 a0_1 a0_2 a0_3 a0_4).bind fun t270 => (if (((⟨#[104, 116, 116, 112, 58, 47, 47]⟩ : ByteArray) ++ a0_0) ++ t269).size + t270.size ≤ 9223372036854775807 then (some ((((⟨#[104, 116, 116, 112, 58, 47, 47]⟩ : ByteArray) ++ a0_0) ++ t269) ++ t270)) else (none))) else (none))) else (none)) = some r := h
 clear h
 by_cases c2 : 7 + a0_0.size ≤ 9223372036854775807
 ·rw [if_pos c2] at H
  have c2b0 := eq_true c2
  have c2b1 : decide (7 + a0_0.size ≤ 9223372036854775807) = true := decide_eq_true c2
  try have c2b2 : (9223372036854775807 < 7 + a0_0.size) = False := eq_false (Nat.not_lt.2 c2)
  replace H := Option.bind_eq_some_iff.mp H
  obtain ⟨t269, A30, H⟩ := H
  try dsimp only at H
  have A3 := Aside0.mk A30
  clear A30
  by_cases c4 : ((⟨#[104, 116, 116, 112, 58, 47, 47]⟩ : ByteArray) ++ a0_0).size + t269.size ≤ 9223372036854775807
  ·rw [if_pos c4] at H
   have c4b0 := eq_true c4
   have c4b1 : decide (((⟨#[104, 116, 116, 112, 58, 47, 47]⟩ : ByteArray) ++ a0_0).size + t269.size ≤ 9223372036854775807) = true := decide_eq_true c4
   try have c4b2 : (9223372036854775807 < ((⟨#[104, 116, 116, 112, 58, 47, 47]⟩ : ByteArray) ++ a0_0).size + t269.size) = False := eq_false (Nat.not_lt.2 c4)
   try have c4z := c4b2; simp only [ByteArray.size_append, show (⟨#[104, 116, 116, 112, 58, 47, 47]⟩ : ByteArray).size = 7 from rfl] at c4z; have c4b3 := c4z
   replace H := Option.bind_eq_some_iff.mp H
   obtain ⟨t270, A50, H⟩ := H
   try dsimp only at H
   have A5 := Aside0.mk A50
   clear A50
   by_cases c6 : (((⟨#[104, 116, 116, 112, 58, 47, 47]⟩ : ByteArray) ++ a0_0) ++ t269).size + t270.size ≤ 9223372036854775807
   ·rw [if_pos c6] at H
    have c6b0 := eq_true c6
    have c6b1 : decide ((((⟨#[104, 116, 116, 112, 58, 47, 47]⟩ : ByteArray) ++ a0_0) ++ t269).size + t270.size ≤ 9223372036854775807) = true := decide_eq_true c6
    try have c6b2 : (9223372036854775807 < (((⟨#[104, 116, 116, 112, 58, 47, 47]⟩ : ByteArray) ++ a0_0) ++ t269).size + t270.size) = False := eq_false (Nat.not_lt.2 c6)
    try have c6z := c6b2; simp only [ByteArray.size_append, show (⟨#[104, 116, 116, 112, 58, 47, 47]⟩ : ByteArray).size = 7 from rfl] at c6z; have c6b3 := c6z
    obtain rfl := Option.some.inj H
    go_enter Tryz.func49, Tryz.ntmps49
    try go_wp2_with (first | ((with_reducible refine gate_dst (N := 1) rfl ?_); refine boxP_ (N := 1) (cs := #[.string a0_0, .int .i64 a0_1, .string a0_2, .string a0_3, .bool a0_4]) (t := 23) ?_; intro gb268 hg w7 hbox hb; have BK268 := Aside0.mk (hbox); have GE268 := geb_ (w := w) hg z0; replace HB := Aside0.mk (below_step z0 hb); clear hb hbox hg))
    have n0_ := Aside0.mk (blk_drew BK268.out)
    have n1_ := Aside0.mk (below_drew1 HB.out)
    clear BK268
    clear HB
    have BK268 := n0_
    have HB := n1_
    clear n0_ n1_
    refine start_ (n := 10) (S := fun w' => w'.cell? ⟨gb268, 0, none⟩ = some (.string a0_0) ∧ w'.cell? ⟨gb268, 1, none⟩ = some (.int .i64 a0_1) ∧ w'.cell? ⟨gb268, 2, none⟩ = some (.string a0_2) ∧ w'.cell? ⟨gb268, 3, none⟩ = some (.string a0_3) ∧ w'.cell? ⟨gb268, 4, none⟩ = some (.bool a0_4)) (ds := []) #[false, false, false, false, false, false, false, false, false, false] (by kernel_rfl) rfl rfl ⟨(blk_cell BK268.out 0).trans rfl, (blk_cell BK268.out 1).trans rfl, (blk_cell BK268.out 2).trans rfl, (blk_cell BK268.out 3).trans rfl, (blk_cell BK268.out 4).trans rfl⟩ (fun hHeld => ?_); refine with_tabW impl_urlText.tab1 impl_urlText.bits1 (fun HT_ HW_ => ?_)
    generalize w7.drew = w8 at BK268 HB hHeld ⊢
    refine pure_ (i := 0) (N := some 3) (v := ?_) (a' := ?_) #[true, false, false, false, false, false, false, false, false, false] rfl rfl (any_of HT_.out (by kernel_rfl)) (fun _ _ _ h => h) (Or.inl ⟨by rfl, ?_⟩) ?_ ?_
    rotate_left
    ·intro w'
     go_simp
     with_reducible rfl
    rotate_left
    ·simp only [Act.put, List.setIfInBounds_toArray, List.set_cons_zero, List.set_cons_succ, i64_w, i32_w]
     rfl
    refine take_ (i := 1) (N := some 4) (v := ?_) (a' := ?_) #[true, true, false, false, false, false, false, false, false, false] rfl rfl (take_ofW HT_.out HW_.out (by kernel_rfl)) (fun _ _ _ h => h) (Or.inl ⟨by rfl, ?_⟩) hHeld ?_ ?_
    rotate_left
    ·rintro w' ⟨s0, s1, s2, s3, s4⟩
     go_simp
     with_reducible rfl
    rotate_left
    ·simp only [Act.put, List.setIfInBounds_toArray, List.set_cons_zero, List.set_cons_succ, i64_w, i32_w]
     rfl
    refine pure_ (i := 2) (N := some 5) (v := ?_) (a' := ?_) #[true, true, true, false, false, false, false, false, false, false] rfl rfl (any_of HT_.out (by kernel_rfl)) (fun _ _ _ h => h) (Or.inl ⟨by rfl, ?_⟩) ?_ ?_
    rotate_left
    ·intro w'
     go_simp
     with_reducible rfl
    rotate_left
    ·simp only [Act.put, List.setIfInBounds_toArray, List.set_cons_zero, List.set_cons_succ, i64_w, i32_w]
     rfl
    refine take_ (i := 3) (N := some 6) (v := ?_) (a' := ?_) #[true, true, true, true, false, false, false, false, false, false] rfl rfl (take_ofW HT_.out HW_.out (by kernel_rfl)) (fun _ _ _ h => h) (Or.inl ⟨by rfl, ?_⟩) hHeld ?_ ?_
    rotate_left
    ·rintro w' ⟨s0, s1, s2, s3, s4⟩
     go_simp
     with_reducible rfl
    rotate_left
    ·simp only [Act.put, List.setIfInBounds_toArray, List.set_cons_zero, List.set_cons_succ, i64_w, i32_w]
     rfl
    refine take_ (i := 6) (N := some 9) (v := ?_) (a' := ?_) #[true, true, true, true, false, false, true, false, false, false] rfl rfl (take_ofW HT_.out HW_.out (by kernel_rfl)) (fun _ _ _ h => h) (Or.inl ⟨by rfl, ?_⟩) hHeld ?_ ?_
    rotate_left
    ·rintro w' ⟨s0, s1, s2, s3, s4⟩
     go_simp
     with_reducible rfl
    rotate_left
    ·simp only [Act.put, List.setIfInBounds_toArray, List.set_cons_zero, List.set_cons_succ, i64_w, i32_w]
     rfl
    refine one_ (i := 4) (N := some 7) #[true, true, true, true, true, false, true, false, false, false] rfl rfl (one_of HT_.out (by kernel_rfl)) (by decide) (fun K hK => ?_)
    refine goes_ Tryz.func96 (by kernel_rfl) rfl #[.agg #[.string a0_0, .int .i64 a0_1, .string a0_2, .string a0_3, .bool a0_4]] (by rfl) rfl rfl z6 ?_
    with_reducible refine (impl_portText.calls a0_0 a0_1 a0_2 a0_3 a0_4 t269 _ ?side1 A3.out).mono ?_
    (case side1 => exact Gl.below HG.out z36)
    rintro e w9 ⟨rfl, hb⟩
    refine ⟨_, rfl, ?_⟩
    have n0_ := Aside0.mk (blk_below (g := gb268) (o := .cells #[.string a0_0, .int .i64 a0_1, .string a0_2, .string a0_3, .bool a0_4] 23 (0, 0)) (by (with_reducible repeat (first | refine blk_drewN ?_ _ | refine blk_drew ?_ | refine blk_alloc ?_ _)); exact BK268.out) hb)
    have n1_ := Aside0.mk (below_step z36 hb)
    clear BK268
    clear HB
    have BK268 := n0_
    have HB := n1_
    clear n0_ n1_
    (try clear hb)
    (try clear hb2)
    (try clear hk)
    (try clear hi)
    refine hK.out _ _ ⟨(blk_cell BK268.out 0).trans rfl, (blk_cell BK268.out 1).trans rfl, (blk_cell BK268.out 2).trans rfl, (blk_cell BK268.out 3).trans rfl, (blk_cell BK268.out 4).trans rfl⟩ (fun hHeld => ?_)
    clear hK K
    refine norm_ (a' := ?_) ?_ ?_
    rotate_left
    ·show Act.put _ (some 7) _ = _
     simp only [Act.put, List.setIfInBounds_toArray, List.set_cons_zero, List.set_cons_succ, i64_w, i32_w]
     rfl
    refine pure_ (i := 5) (N := some 8) (v := ?_) (a' := ?_) #[true, true, true, true, true, true, true, false, false, false] rfl rfl (any_of HT_.out (by kernel_rfl)) (fun _ _ _ h => h) (Or.inl ⟨by rfl, ?_⟩) ?_ ?_
    rotate_left
    ·intro w'
     go_simp
     with_reducible rfl
    rotate_left
    ·simp only [Act.put, List.setIfInBounds_toArray, List.set_cons_zero, List.set_cons_succ, i64_w, i32_w]
     rfl
    refine one_ (i := 7) (N := some 10) #[true, true, true, true, true, true, true, true, false, false] rfl rfl (one_of HT_.out (by kernel_rfl)) (by decide) (fun K hK => ?_)
    refine goes_ Tryz.func97 (by kernel_rfl) rfl #[.agg #[.string a0_0, .int .i64 a0_1, .string a0_2, .string a0_3, .bool a0_4]] (by rfl) rfl rfl z6 ?_
    with_reducible refine (impl_pathText.calls a0_0 a0_1 a0_2 a0_3 a0_4 t270 _ A5.out).mono ?_
    rintro e w10 ⟨rfl, hb⟩
    refine ⟨_, rfl, ?_⟩
    have n0_ := Aside0.mk (blk_below (g := gb268) (o := .cells #[.string a0_0, .int .i64 a0_1, .string a0_2, .string a0_3, .bool a0_4] 23 (0, 0)) (by (with_reducible repeat (first | refine blk_drewN ?_ _ | refine blk_drew ?_ | refine blk_alloc ?_ _)); exact BK268.out) hb)
    have n1_ := Aside0.mk (below_step z36 hb)
    clear BK268
    clear HB
    have BK268 := n0_
    have HB := n1_
    clear n0_ n1_
    (try clear hb)
    (try clear hb2)
    (try clear hk)
    (try clear hi)
    refine hK.out _ _ ⟨(blk_cell BK268.out 0).trans rfl, (blk_cell BK268.out 1).trans rfl, (blk_cell BK268.out 2).trans rfl, (blk_cell BK268.out 3).trans rfl, (blk_cell BK268.out 4).trans rfl⟩ (fun hHeld => ?_)
    clear hK K
    refine norm_ (a' := ?_) ?_ ?_
    rotate_left
    ·show Act.put _ (some 10) _ = _
     simp only [Act.put, List.setIfInBounds_toArray, List.set_cons_zero, List.set_cons_succ, i64_w, i32_w]
     rfl
    refine pure_ (i := 8) (N := some 11) (v := ?_) (a' := ?_) #[true, true, true, true, true, true, true, true, true, false] rfl rfl (any_of HT_.out (by kernel_rfl)) (fun _ _ _ h => h) (Or.inl ⟨by rfl, ?_⟩) ?_ ?_
    rotate_left
    ·intro w'
     go_simp
     with_reducible rfl
    rotate_left
    ·simp only [Act.put, List.setIfInBounds_toArray, List.set_cons_zero, List.set_cons_succ, i64_w, i32_w]
     rfl
    refine pure_ (i := 9) (N := some 2) (v := ?_) (a' := ?_) #[true, true, true, true, true, true, true, true, true, true] rfl rfl (any_of HT_.out (by kernel_rfl)) (fun _ _ _ h => h) (Or.inl ⟨by rfl, ?_⟩) ?_ ?_
    rotate_left
    ·intro w'
     go_simp
     with_reducible rfl
    rotate_left
    ·simp only [Act.put, List.setIfInBounds_toArray, List.set_cons_zero, List.set_cons_succ, i64_w, i32_w]
     rfl
    refine done_ (done_of HT_.out (by kernel_rfl)) ?_
    try go_wp2
    go_ret
    exact ⟨z3, z36⟩
   ·rw [if_neg c6] at H
    exact absurd H (by simp)
  ·rw [if_neg c4] at H
   exact absurd H (by simp)
 ·rw [if_neg c2] at H
  exact absurd H (by simp)

/-! ### impl_isHost_1: function 137 -/
def impl_isHost_1.f (a0 : Int) : Option (Bool) := (impl_isLower.f a0).bind fun t271 => (if t271 = true then (some true) else ((impl_isDigit.f a0).bind fun t272 => (if t272 = true then (some true) else (if a0 = 45 then (some true) else (some (a0 == 46))))))
set_option maxHeartbeats 8000000 in
set_option maxRecDepth 100000 in
theorem impl_isHost_1.calls (a0 : Int) (r : Bool) (w : World) (h : impl_isHost_1.f a0 = some r) :
  Calls Tryz.prog 137 #[.int .u8 a0] w fun e w' => e = .returned (.bool r) ∧ Drawn0 w w' := by
 have H : ((impl_isLower.f a0).bind fun t271 => (if t271 = true then (some true) else ((impl_isDigit.f a0).bind fun t272 => (if t272 = true then (some true) else (if a0 = 45 then (some true) else (some (a0 == 46))))))) = some r := h
 clear h
 replace H := Option.bind_eq_some_iff.mp H
 obtain ⟨t271, A20, H⟩ := H
 try dsimp only at H
 have A2 := Aside0.mk A20
 clear A20
 by_cases c3 : t271 = true
 ·subst c3
  rw [if_pos rfl] at H
  obtain rfl := Option.some.inj H
  go_enter Tryz.func137, Tryz.ntmps137
  go_wp2_with (first | ((with_reducible refine gate_callee (f := 138) rfl ?_); refine goesQ_ 4 Tryz.func138 #[.int .u8 a0] ?_; (with_reducible refine (impl_isLower.calls a0 true _ A2.out).mono ?_); rintro e w' ⟨rfl, ⟨nd, rfl⟩⟩; refine ⟨_, rfl, ?_⟩))
  go_ret
  exact ⟨z2, z5⟩
 ·replace c3 := Bool.eq_false_iff.mpr c3
  subst c3
  rw [if_neg Bool.false_ne_true] at H
  replace H := Option.bind_eq_some_iff.mp H
  obtain ⟨t272, A40, H⟩ := H
  try dsimp only at H
  have A4 := Aside0.mk A40
  clear A40
  by_cases c5 : t272 = true
  ·subst c5
   rw [if_pos rfl] at H
   obtain rfl := Option.some.inj H
   go_enter Tryz.func137, Tryz.ntmps137
   go_wp2_with (first | ((with_reducible refine gate_callee (f := 138) rfl ?_); refine goesQ_ 4 Tryz.func138 #[.int .u8 a0] ?_; (with_reducible refine (impl_isLower.calls a0 false _ A2.out).mono ?_); rintro e w' ⟨rfl, ⟨nd, rfl⟩⟩; refine ⟨_, rfl, ?_⟩) | (go_at_call 139; (with_reducible refine (impl_isDigit.calls a0 true _ A4.out).mono ?_); rintro e w' ⟨rfl, ⟨nd, rfl⟩⟩))
   go_ret
   exact ⟨z2, z5⟩
  ·replace c5 := Bool.eq_false_iff.mpr c5
   subst c5
   rw [if_neg Bool.false_ne_true] at H
   by_cases c6 : a0 = 45
   ·rw [if_pos c6] at H
    have c6b0 : (a0 == 45) = true := beq_iff_eq.mpr c6
    have c6b1 : (a0 != 45) = false := bne_eq_false_iff_eq.mpr c6
    clear c6
    obtain rfl := Option.some.inj H
    go_enter Tryz.func137, Tryz.ntmps137
    go_wp2_with (first | ((with_reducible refine gate_callee (f := 138) rfl ?_); refine goesQ_ 4 Tryz.func138 #[.int .u8 a0] ?_; (with_reducible refine (impl_isLower.calls a0 false _ A2.out).mono ?_); rintro e w' ⟨rfl, ⟨nd, rfl⟩⟩; refine ⟨_, rfl, ?_⟩) | (go_at_call 139; (with_reducible refine (impl_isDigit.calls a0 false _ A4.out).mono ?_); rintro e w' ⟨rfl, ⟨nd, rfl⟩⟩))
    go_ret
    exact ⟨z2, z5⟩
   ·rw [if_neg c6] at H
    have c6b0 : (a0 == 45) = false := beq_eq_false_iff_ne.mpr c6
    have c6b1 : (a0 != 45) = true := bne_iff_ne.mpr c6
    obtain rfl := Option.some.inj H
    go_enter Tryz.func137, Tryz.ntmps137
    go_wp2_with (first | ((with_reducible refine gate_callee (f := 138) rfl ?_); refine goesQ_ 4 Tryz.func138 #[.int .u8 a0] ?_; (with_reducible refine (impl_isLower.calls a0 false _ A2.out).mono ?_); rintro e w' ⟨rfl, ⟨nd, rfl⟩⟩; refine ⟨_, rfl, ?_⟩) | (go_at_call 139; (with_reducible refine (impl_isDigit.calls a0 false _ A4.out).mono ?_); rintro e w' ⟨rfl, ⟨nd, rfl⟩⟩))
    go_ret
    exact ⟨z2, z5⟩

/-! ### slices_Index_string_string: function 173 -/
def slices_Index_string_string.l0 : Nat → List ByteArray → ByteArray → Int → Int → Option (Int)
 | 0, _, _, _, _ => none
 | k + 1, x0, x1, x7, x8 => if x8 < x7 then (if 0 ≤ x8 then (if x8 < (x0.length : Int) then (if x1.toList = (rdOf ByteArray.empty x0 x8).toList then (some x8) else (slices_Index_string_string.l0 k x0 x1 x7 (wrap64 (x8 + 1)))) else (none)) else (none)) else (some (-1))
def slices_Index_string_string.f (k : Nat) (l0 : List ByteArray) (a1 : ByteArray) : Option (Int) := slices_Index_string_string.l0 k l0 a1 (l0.length : Int) 0
theorem slices_Index_string_string.mono_l : ∀ k, (∀ y0 y1 y2 y3, LeO (slices_Index_string_string.l0 k y0 y1 y2 y3) (slices_Index_string_string.l0 (k + 1) y0 y1 y2 y3))
 | 0 => fun _ _ _ _ r h => by simp [slices_Index_string_string.l0] at h
 | k + 1 => by
  have ih0 := slices_Index_string_string.mono_l k
  ·intro y0 y1 y2 y3
   unfold slices_Index_string_string.l0
   repeat' first | (with_reducible first | exact ih0 _ _ _ _ | exact LeO.refl _ | exact LeO.none _ | refine LeO.ite ?_ ?_ | refine LeO.bind ?_ (fun _ => ?_)) | exact ih0 _ _ _ _ | exact LeO.none _ | refine LeO.ite ?_ ?_ | refine LeO.bind ?_ (fun _ => ?_)
theorem slices_Index_string_string.mono : ∀ a0 a1 k, LeO (slices_Index_string_string.f k a0 a1) (slices_Index_string_string.f (k + 1) a0 a1) := by
 intro a0 a1 k
 have ih0 := slices_Index_string_string.mono_l k
 unfold slices_Index_string_string.f
 repeat' first | (with_reducible first | exact ih0 _ _ _ _ | exact LeO.refl _ | exact LeO.none _ | refine LeO.ite ?_ ?_ | refine LeO.bind ?_ (fun _ => ?_)) | exact ih0 _ _ _ _ | exact LeO.none _ | refine LeO.ite ?_ ?_ | refine LeO.bind ?_ (fun _ => ?_)
set_option maxHeartbeats 8000000 in
set_option maxRecDepth 100000 in
theorem slices_Index_string_string.calls (k : Nat) (A0 : Option Addr) (c0 : Nat) (l0 : List ByteArray) (a1 : ByteArray) (r : Int) (w : World) (hr0 : Kd.C Kd.string w A0 l0.length l0) (hc0 : l0.length ≤ c0) (h : slices_Index_string_string.f k l0 a1 = some r) :
  Calls Tryz.prog 173 #[.slice A0 l0.length c0, .string a1] w fun e w' => e = .returned (.int .i64 r) ∧ Drawn0 w w' := by
 have HR0 := Aside0.mk hr0
 have HC0 := Aside0.mk hc0
 clear hr0 hc0
 have H : (slices_Index_string_string.l0 k l0 a1 (l0.length : Int) 0) = some r := h
 clear h
 have H' := Aside0.mk H
 clear H
 go_enter Tryz.func173, Tryz.ntmps173
 go_wp2
 go_loopg [8] k (fun kq v8 w' => ∃ (x8_1 : Int), v8 = .int .i64 x8_1 ∧ Aside0 (slices_Index_string_string.l0 kq l0 a1 (l0.length : Int) x8_1 = some r) ∧ Aside0 (kq ≤ k) ∧ Drawn0 w w')
 case atStart => exact ⟨(0), z2, H', ⟨Nat.le_refl _⟩, z5⟩
 case round =>
  clear H'
  try clear c1
  try clear p2
  obtain ⟨x8_1, rfl, HA, HK1, ⟨m1, rfl⟩⟩ := hrel
  cases gk with
  | zero => exact absurd HA.out (by simp [slices_Index_string_string.l0])
  | succ k1 =>
   have H := HA.out
   clear HA
   simp only [slices_Index_string_string.l0] at H
   by_cases c3 : x8_1 < (l0.length : Int)
   ·rw [if_pos c3] at H
    have c3b0 : decide (x8_1 < (l0.length : Int)) = true := decide_eq_true c3
    clear c3
    by_cases c4 : 0 ≤ x8_1
    ·rw [if_pos c4] at H
     have c4b0 : decide (0 ≤ x8_1) = true := decide_eq_true c4
     clear c4
     by_cases c5 : x8_1 < (l0.length : Int)
     ·rw [if_pos c5] at H
      have c5b0 : decide (x8_1 < (l0.length : Int)) = true := decide_eq_true c5
      clear c5
      by_cases c6 : a1.toList = (rdOf ByteArray.empty l0 x8_1).toList
      ·rw [if_pos c6] at H
       have c6b0 : (a1.toList == (rdOf ByteArray.empty l0 x8_1).toList) = true := beq_iff_eq.mpr c6
       have c6b1 : (a1.toList != (rdOf ByteArray.empty l0 x8_1).toList) = false := bne_eq_false_iff_eq.mpr c6
       clear c6
       obtain rfl := Option.some.inj H
       have p273 : 0 ≤ (x8_1 : Int) := of_decide_eq_true z1
       have q273 : x8_1 < (l0.length : Int) := of_decide_eq_true z1
       obtain ⟨ad273, e273, hx273_0⟩ := Kd.at_string HR0.out x8_1 p273 q273
       cases e273
       replace p273 := eq_true p273
       replace q273 := eq_true q273
       go_wp2
       go_ret
       exact ⟨z2, z5⟩
      ·rw [if_neg c6] at H
       have c6b0 : (a1.toList == (rdOf ByteArray.empty l0 x8_1).toList) = false := beq_eq_false_iff_ne.mpr c6
       have c6b1 : (a1.toList != (rdOf ByteArray.empty l0 x8_1).toList) = true := bne_iff_ne.mpr c6
       have H' := Aside0.mk H
       clear H
       have p273 : 0 ≤ (x8_1 : Int) := of_decide_eq_true z1
       have q273 : x8_1 < (l0.length : Int) := of_decide_eq_true z1
       obtain ⟨ad273, e273, hx273_0⟩ := Kd.at_string HR0.out x8_1 p273 q273
       cases e273
       replace p273 := eq_true p273
       replace q273 := eq_true q273
       go_wp2
       go_roundg k1
       case measure => have := HK1.out; omega
       case rel => exact ⟨(wrap64 (x8_1 + 1)), z2, H', ⟨z62⟩, z5⟩
     ·rw [if_neg c5] at H
      exact absurd H (by simp)
    ·rw [if_neg c4] at H
     exact absurd H (by simp)
   ·rw [if_neg c3] at H
    have c3b0 : decide (x8_1 < (l0.length : Int)) = false := decide_eq_false c3
    clear c3
    obtain rfl := Option.some.inj H
    go_wp2
    go_ret
    exact ⟨z2, z5⟩

/-! ### slices_Contains_string_string: function 140 -/
def slices_Contains_string_string.f (k : Nat) (l0 : List ByteArray) (a1 : ByteArray) : Option (Bool) := (slices_Index_string_string.f k l0 a1).bind fun t274 => (some (decide (t274 ≥ 0)))
theorem slices_Contains_string_string.mono : ∀ a0 a1 k, LeO (slices_Contains_string_string.f k a0 a1) (slices_Contains_string_string.f (k + 1) a0 a1) := by
 intro a0 a1 k
 unfold slices_Contains_string_string.f
 repeat' first | (with_reducible first | exact slices_Index_string_string.mono _ _ _ | exact LeO.refl _ | exact LeO.none _ | refine LeO.ite ?_ ?_ | refine LeO.bind ?_ (fun _ => ?_)) | exact slices_Index_string_string.mono _ _ _ | exact LeO.none _ | refine LeO.ite ?_ ?_ | refine LeO.bind ?_ (fun _ => ?_)
set_option maxHeartbeats 8000000 in
set_option maxRecDepth 100000 in
theorem slices_Contains_string_string.calls (k : Nat) (A0 : Option Addr) (c0 : Nat) (l0 : List ByteArray) (a1 : ByteArray) (r : Bool) (w : World) (hr0 : Kd.C Kd.string w A0 l0.length l0) (hc0 : l0.length ≤ c0) (h : slices_Contains_string_string.f k l0 a1 = some r) :
  Calls Tryz.prog 140 #[.slice A0 l0.length c0, .string a1] w fun e w' => e = .returned (.bool r) ∧ Drawn0 w w' := by
 have HR0 := Aside0.mk hr0
 have HC0 := Aside0.mk hc0
 clear hr0 hc0
 have H : ((slices_Index_string_string.f k l0 a1).bind fun t274 => (some (decide (t274 ≥ 0)))) = some r := h
 clear h
 replace H := Option.bind_eq_some_iff.mp H
 obtain ⟨t274, A30, H⟩ := H
 try dsimp only at H
 have A3 := Aside0.mk A30
 clear A30
 obtain rfl := Option.some.inj H
 go_enter Tryz.func140, Tryz.ntmps140
 go_wp2_with (first | ((with_reducible refine gate_callee (f := 173) rfl ?_); refine goesQ_ 7 Tryz.func173 #[.slice A0 l0.length c0, .string a1] ?_; (with_reducible refine (slices_Index_string_string.calls k _ _ l0 a1 t274 _ ?side1 ?side2 A3.out).mono ?_); (case side1 => repeat (first | exact HR0.out | (with_reducible refine Kd.C_alloc ?_ _) | (with_reducible refine Kd.C_drewN ?_ _) | (with_reducible refine Kd.C_drew ?_))); (case side2 => exact HC0.out); rintro e w' ⟨rfl, ⟨nd, rfl⟩⟩; refine ⟨_, rfl, ?_⟩))
 go_ret
 exact ⟨z2, z5⟩

/-! ### impl_all__impl_isHost_1: function 33 at a function value -/
def impl_all__impl_isHost_1.l0 : Nat → ByteArray → Int → Option (Bool)
 | 0, _, _ => none
 | k + 1, x0, x5 => if x5 < (x0.size : Int) then (if 0 ≤ x5 then ((impl_isHost_1.f (bt x0 x5)).bind fun t275 => (if t275 = true then (impl_all__impl_isHost_1.l0 k x0 (wrap64 (x5 + 1))) else (some false))) else (none)) else (some true)
def impl_all__impl_isHost_1.f (k : Nat) (a0 : ByteArray) : Option (Bool) := impl_all__impl_isHost_1.l0 k a0 0
theorem impl_all__impl_isHost_1.mono_l : ∀ k, (∀ y0 y1, LeO (impl_all__impl_isHost_1.l0 k y0 y1) (impl_all__impl_isHost_1.l0 (k + 1) y0 y1))
 | 0 => fun _ _ r h => by simp [impl_all__impl_isHost_1.l0] at h
 | k + 1 => by
  have ih0 := impl_all__impl_isHost_1.mono_l k
  ·intro y0 y1
   unfold impl_all__impl_isHost_1.l0
   repeat' first | (with_reducible first | exact ih0 _ _ | exact LeO.refl _ | exact LeO.none _ | refine LeO.ite ?_ ?_ | refine LeO.bind ?_ (fun _ => ?_)) | exact ih0 _ _ | exact LeO.none _ | refine LeO.ite ?_ ?_ | refine LeO.bind ?_ (fun _ => ?_)
theorem impl_all__impl_isHost_1.mono : ∀ a0 k, LeO (impl_all__impl_isHost_1.f k a0) (impl_all__impl_isHost_1.f (k + 1) a0) := by
 intro a0 k
 have ih0 := impl_all__impl_isHost_1.mono_l k
 unfold impl_all__impl_isHost_1.f
 repeat' first | (with_reducible first | exact ih0 _ _ | exact LeO.refl _ | exact LeO.none _ | refine LeO.ite ?_ ?_ | refine LeO.bind ?_ (fun _ => ?_)) | exact ih0 _ _ | exact LeO.none _ | refine LeO.ite ?_ ?_ | refine LeO.bind ?_ (fun _ => ?_)
set_option maxHeartbeats 8000000 in
set_option maxRecDepth 100000 in
theorem impl_all__impl_isHost_1.calls (k : Nat) (a0 : ByteArray) (r : Bool) (w : World) (h : impl_all__impl_isHost_1.f k a0 = some r) :
  Calls Tryz.prog 33 #[.string a0, .func (.func 137) #[] #[]] w fun e w' => e = .returned (.bool r) ∧ Drawn0 w w' := by
 have H : (impl_all__impl_isHost_1.l0 k a0 0) = some r := h
 clear h
 have H' := Aside0.mk H
 clear H
 go_enter Tryz.func33, Tryz.ntmps33
 go_wp2
 go_loopg [5] k (fun kq v5 w' => ∃ (x5_1 : Int), v5 = .int .i64 x5_1 ∧ Aside0 (impl_all__impl_isHost_1.l0 kq a0 x5_1 = some r) ∧ Aside0 (kq ≤ k) ∧ Drawn0 w w')
 case atStart => exact ⟨(0), z2, H', ⟨Nat.le_refl _⟩, z5⟩
 case round =>
  clear H'
  obtain ⟨x5_1, rfl, HA, HK1, ⟨m1, rfl⟩⟩ := hrel
  cases gk with
  | zero => exact absurd HA.out (by simp [impl_all__impl_isHost_1.l0])
  | succ k1 =>
   have H := HA.out
   clear HA
   simp only [impl_all__impl_isHost_1.l0] at H
   by_cases c2 : x5_1 < (a0.size : Int)
   ·rw [if_pos c2] at H
    have c2b0 : decide (x5_1 < (a0.size : Int)) = true := decide_eq_true c2
    clear c2
    by_cases c3 : 0 ≤ x5_1
    ·rw [if_pos c3] at H
     have c3b0 : decide (0 ≤ x5_1) = true := decide_eq_true c3
     clear c3
     replace H := Option.bind_eq_some_iff.mp H
     obtain ⟨t275, A50, H⟩ := H
     try dsimp only at H
     have A5 := Aside0.mk A50
     clear A50
     by_cases c6 : t275 = true
     ·subst c6
      rw [if_pos rfl] at H
      have H' := Aside0.mk H
      clear H
      have p4 : 0 ≤ (x5_1 : Int) := of_decide_eq_true z1
      have q4 : x5_1 < (a0.size : Int) := of_decide_eq_true z1
      have hx4 := bt_at a0 x5_1
      replace p4 := eq_true p4
      replace q4 := eq_true q4
      go_wp2_with (first | (go_at_call 137; (with_reducible refine (impl_isHost_1.calls (bt a0 x5_1) true _ A5.out).mono ?_); rintro e w' ⟨rfl, ⟨nd, rfl⟩⟩))
      go_roundg k1
      case measure => have := HK1.out; omega
      case rel => exact ⟨(wrap64 (x5_1 + 1)), z2, H', ⟨z62⟩, z5⟩
     ·replace c6 := Bool.eq_false_iff.mpr c6
      subst c6
      rw [if_neg Bool.false_ne_true] at H
      obtain rfl := Option.some.inj H
      have p4 : 0 ≤ (x5_1 : Int) := of_decide_eq_true z1
      have q4 : x5_1 < (a0.size : Int) := of_decide_eq_true z1
      have hx4 := bt_at a0 x5_1
      replace p4 := eq_true p4
      replace q4 := eq_true q4
      go_wp2_with (first | (go_at_call 137; (with_reducible refine (impl_isHost_1.calls (bt a0 x5_1) false _ A5.out).mono ?_); rintro e w' ⟨rfl, ⟨nd, rfl⟩⟩))
      go_ret
      exact ⟨z2, z5⟩
    ·rw [if_neg c3] at H
     exact absurd H (by simp)
   ·rw [if_neg c2] at H
    have c2b0 : decide (x5_1 < (a0.size : Int)) = false := decide_eq_false c2
    clear c2
    obtain rfl := Option.some.inj H
    go_wp2
    go_ret
    exact ⟨z2, z5⟩

/-! ### impl_isHost: function 88 -/
def impl_isHost.j0 : Nat → ByteArray → Bool → Option (Bool)
 | 0, _, _ => none
 | k + 1, x0, x11 => if x11 = true then (some false) else ((strings_Split.f x0 (⟨#[46]⟩ : ByteArray)).bind fun t278 => ((slices_Contains_string_string.f k t278 (⟨#[]⟩ : ByteArray)).bind fun t281 => (some (!t281))))
def impl_isHost.f (k : Nat) (a0 : ByteArray) : Option (Bool) := (impl_within.f (a0.size : Int) 1 60).bind fun t276 => (if t276 = true then ((impl_all__impl_isHost_1.f k a0).bind fun t277 => (impl_isHost.j0 k a0 (!t277))) else (impl_isHost.j0 k a0 true))
theorem impl_isHost.mono_l : ∀ k, (∀ y0 y1, LeO (impl_isHost.j0 k y0 y1) (impl_isHost.j0 (k + 1) y0 y1))
 | 0 => fun _ _ r h => by simp [impl_isHost.j0] at h
 | k + 1 => by
  have ih0 := impl_isHost.mono_l k
  ·intro y0 y1
   unfold impl_isHost.j0
   repeat' first | (with_reducible first | exact ih0 _ _ | exact impl_all__impl_isHost_1.mono _ _ | exact slices_Contains_string_string.mono _ _ _ | exact LeO.refl _ | exact LeO.none _ | refine LeO.ite ?_ ?_ | refine LeO.bind ?_ (fun _ => ?_)) | exact ih0 _ _ | exact impl_all__impl_isHost_1.mono _ _ | exact slices_Contains_string_string.mono _ _ _ | exact LeO.none _ | refine LeO.ite ?_ ?_ | refine LeO.bind ?_ (fun _ => ?_)
theorem impl_isHost.mono : ∀ a0 k, LeO (impl_isHost.f k a0) (impl_isHost.f (k + 1) a0) := by
 intro a0 k
 have ih0 := impl_isHost.mono_l k
 unfold impl_isHost.f
 repeat' first | (with_reducible first | exact ih0 _ _ | exact impl_all__impl_isHost_1.mono _ _ | exact slices_Contains_string_string.mono _ _ _ | exact LeO.refl _ | exact LeO.none _ | refine LeO.ite ?_ ?_ | refine LeO.bind ?_ (fun _ => ?_)) | exact ih0 _ _ | exact impl_all__impl_isHost_1.mono _ _ | exact slices_Contains_string_string.mono _ _ _ | exact LeO.none _ | refine LeO.ite ?_ ?_ | refine LeO.bind ?_ (fun _ => ?_)
set_option maxHeartbeats 8000000 in
set_option maxRecDepth 100000 in
theorem impl_isHost.calls (k : Nat) (a0 : ByteArray) (r : Bool) (w : World) (hG : Gl w) (h : impl_isHost.f k a0 = some r) :
  Calls Tryz.prog 88 #[.string a0] w fun e w' => e = .returned (.bool r) ∧ Below w.heap.size w w' := by
 have HG := Aside0.mk hG
 clear hG
 have HB := Aside0.mk (Below.refl w.heap.size w)
 have H : ((impl_within.f (a0.size : Int) 1 60).bind fun t276 => (if t276 = true then ((impl_all__impl_isHost_1.f k a0).bind fun t277 => (impl_isHost.j0 k a0 (!t277))) else (impl_isHost.j0 k a0 true))) = some r := h
 clear h
 have HC2 := Aside0.mk H
 clear H
 go_enter Tryz.func88, Tryz.ntmps88
 go_upto_region 1 with (fail)
 go_cut [11] (fun v11 wc => ∃ (kq : Nat) (x11_1 : Bool), v11 = .bool x11_1 ∧ Aside0 (impl_isHost.j0 kq a0 x11_1 = some r) ∧ Aside0 (kq ≤ k) ∧ Aside0 (Below w.heap.size w wc))
 case first =>
  have H := HC2.out
  clear HC2
  replace H := Option.bind_eq_some_iff.mp H
  obtain ⟨t276, A30, H⟩ := H
  try dsimp only at H
  have A3 := Aside0.mk A30
  clear A30
  by_cases c4 : t276 = true
  ·subst c4
   rw [if_pos rfl] at H
   replace H := Option.bind_eq_some_iff.mp H
   obtain ⟨t277, A50, H⟩ := H
   try dsimp only at H
   have A5 := Aside0.mk A50
   clear A50
   have H' := Aside0.mk H
   clear H
   go_wp2_with (first | ((with_reducible refine gate_callee (f := 65) rfl ?_); refine goesQ_ 5 Tryz.func65 #[.int .i64 (a0.size : Int), .int .i64 1, .int .i64 60] ?_; (with_reducible refine (impl_within.calls (a0.size : Int) 1 60 true _ A3.out).mono ?_); rintro e w' ⟨rfl, ⟨nd, rfl⟩⟩; refine ⟨_, rfl, ?_⟩) | (go_at_call 33; (with_reducible refine (impl_all__impl_isHost_1.calls k a0 t277 _ A5.out).mono ?_); rintro e w' ⟨rfl, ⟨nd, rfl⟩⟩))
   go_meet
   case rel => exact ⟨_, (!t277), z2, H', ⟨z22⟩, ⟨z0⟩⟩
  ·replace c4 := Bool.eq_false_iff.mpr c4
   subst c4
   rw [if_neg Bool.false_ne_true] at H
   have H' := Aside0.mk H
   clear H
   go_wp2_with (first | ((with_reducible refine gate_callee (f := 65) rfl ?_); refine goesQ_ 5 Tryz.func65 #[.int .i64 (a0.size : Int), .int .i64 1, .int .i64 60] ?_; (with_reducible refine (impl_within.calls (a0.size : Int) 1 60 false _ A3.out).mono ?_); rintro e w' ⟨rfl, ⟨nd, rfl⟩⟩; refine ⟨_, rfl, ?_⟩))
   go_meet
   case rel => exact ⟨_, (true), z2, H', ⟨z22⟩, ⟨z0⟩⟩
 case rest =>
  clear HC2
  try clear p2
  try clear c4
  obtain ⟨kq, x11_1, rfl, HA, HJ1, HB⟩ := hcut
  cases kq with
  | zero => exact absurd HA.out (by simp [impl_isHost.j0])
  | succ kj1 =>
   have H := HA.out
   clear HA
   simp only [impl_isHost.j0] at H
   by_cases c6 : x11_1 = true
   ·subst c6
    rw [if_pos rfl] at H
    obtain rfl := Option.some.inj H
    go_wp2
    go_ret
    exact ⟨z3, z0⟩
   ·replace c6 := Bool.eq_false_iff.mpr c6
    subst c6
    rw [if_neg Bool.false_ne_true] at H
    replace H := Option.bind_eq_some_iff.mp H
    obtain ⟨t278, A70, H⟩ := H
    try dsimp only at H
    have A7 := Aside0.mk A70
    clear A70
    replace H := Option.bind_eq_some_iff.mp H
    obtain ⟨t281, A80, H⟩ := H
    try dsimp only at H
    have A8 := Aside0.mk A80
    clear A80
    obtain rfl := Option.some.inj H
    go_wp2_with (first | ((with_reducible refine gate_callee (f := 46) rfl ?_); refine goesQ_ 13 Tryz.func46 #[.string a0, .string (⟨#[46]⟩ : ByteArray)] ?_; (with_reducible refine (strings_Split.calls a0 (⟨#[46]⟩ : ByteArray) t278 _ ?side1 A7.out).mono ?_); (case side1 => exact Gl.below HG.out z0); rintro e w9 ⟨v279, rfl, ho0, hb⟩; refine ⟨_, rfl, ?_⟩; have HO280 := Aside0.mk (Kd.R_lower ho0 (below_size z0)); replace HB := Aside0.mk (below_step z0 hb); (try clear hb); (try clear ho0); obtain ⟨Ao10, co10, eo10⟩ := Kd.R_slice HO280.out; subst eo10) | ((with_reducible refine gate_callee (f := 140) rfl ?_); refine goesQ_ 14 Tryz.func140 #[.slice Ao10 t278.length co10, .string (⟨#[]⟩ : ByteArray)] ?_; (with_reducible refine (slices_Contains_string_string.calls kj1 _ _ t278 (⟨#[]⟩ : ByteArray) t281 _ ?side1 ?side2 A8.out).mono ?_); (case side1 => repeat (first | exact (Kd.R_reads' HO280.out).2.2 | (with_reducible refine Kd.C_alloc ?_ _) | (with_reducible refine Kd.C_drewN ?_ _) | (with_reducible refine Kd.C_drew ?_))); (case side2 => exact (Kd.R_reads' HO280.out).2.1); rintro e w' ⟨rfl, ⟨nd, rfl⟩⟩; refine ⟨_, rfl, ?_⟩))
    go_ret
    exact ⟨z3, z0⟩

end Go.Proofs.YtcplgnikihjilaaGreatDoor.GFnExactCanon
