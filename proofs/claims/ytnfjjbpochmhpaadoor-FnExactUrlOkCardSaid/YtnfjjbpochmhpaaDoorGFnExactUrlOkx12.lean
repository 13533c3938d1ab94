-- Laid by gen.py of this session (over the kit's printing program): what the law FnExactUrlOk reaches, as Lean functions, and that Go comes to just that.
import Derived.Test.YtnfjjbpochmhpaaDoorGFnExactUrlOkx0
import Derived.Test.YtnfjjbpochmhpaaDoorGFnExactUrlOkx1
import Derived.Test.YtnfjjbpochmhpaaDoorGFnExactUrlOkx6
import Derived.Test.YtnfjjbpochmhpaaDoorGFnExactUrlOkx7
import Derived.Test.YtnfjjbpochmhpaaDoorGFnExactUrlOkx11
import Derived.Test.YtnfjjbpochmhpaaDoorZFnExactUrlOk
namespace Go.Proofs.YtnfjjbpochmhpaaDoor.GFnExactUrlOk
open Go.RowKit Go.Proofs.YtnfjjbpochmhpaaDoorW.PrintWords Go.Proofs.YtnfjjbpochmhpaaDoorW.PrintLast Go.Proofs.YtnfjjbpochmhpaaDoorW.PrintMore Go.Proofs.YtnfjjbpochmhpaaDoorW.Zs
attribute [local go_sem] max2_int min2_int max_two min_two max_three min_three max_four min_four   -- for this text's walks alone
set_option linter.unusedVariables false
set_option linter.unusedSimpArgs false

/-! ### laws_FnExactUrlOk: function 9 -/
def laws_FnExactUrlOk.f (k : Nat) (a0_0 : ByteArray) (a0_1 : Int) (a0_2 : ByteArray) (a0_3 : ByteArray) (a0_4 : Bool) : Option (Bool) := (laws_szUrl.f a0_0 a0_1 a0_2 a0_3 a0_4 1048576).bind fun t261 => (if t261 < 0 then (some true) else ((laws_toUrl.f a0_0 a0_1 a0_2 a0_3 a0_4).bind fun bt262 => ((spec_UrlOk.f k bt262.1 bt262.2.1 bt262.2.2.1 bt262.2.2.2.1 bt262.2.2.2.2).bind fun t267 => ((laws_toUrl.f a0_0 a0_1 a0_2 a0_3 a0_4).bind fun bt268 => ((impl_UrlOk.f k bt268.1 bt268.2.1 bt268.2.2.1 bt268.2.2.2.1 bt268.2.2.2.2).bind fun t273 => (if (t273 != t267) = true then (some false) else (some true)))))))
theorem laws_FnExactUrlOk.mono : ∀ a0 a1 a2 a3 a4 k, LeO (laws_FnExactUrlOk.f k a0 a1 a2 a3 a4) (laws_FnExactUrlOk.f (k + 1) a0 a1 a2 a3 a4) := by
 intro a0 a1 a2 a3 a4 k
 unfold laws_FnExactUrlOk.f
 repeat' first | (with_reducible first | exact impl_UrlOk.mono _ _ _ _ _ _ | exact spec_UrlOk.mono _ _ _ _ _ _ | exact LeO.refl _ | exact LeO.none _ | refine LeO.ite ?_ ?_ | refine LeO.bind ?_ (fun _ => ?_)) | exact impl_UrlOk.mono _ _ _ _ _ _ | exact spec_UrlOk.mono _ _ _ _ _ _ | exact LeO.none _ | refine LeO.ite ?_ ?_ | refine LeO.bind ?_ (fun _ => ?_)
set_option maxHeartbeats 8000000 in
set_option maxRecDepth 100000 in
theorem laws_FnExactUrlOk.calls (k : Nat) (a0_0 : ByteArray) (a0_1 : Int) (a0_2 : ByteArray) (a0_3 : ByteArray) (a0_4 : Bool) (r : Bool) (w : World) (hG : Gl w) (h : laws_FnExactUrlOk.f k a0_0 a0_1 a0_2 a0_3 a0_4 = some r) :
  Calls Tryd.prog 9 #[.agg #[.string a0_0, .int .i64 a0_1, .string a0_2, .string a0_3, .bool a0_4]] w fun e w' => e = .returned (.bool r) ∧ Below w.heap.size w w' := by
 have hu41 := Tryd.underlying41
 have HG := Aside0.mk hG
 clear hG
 have HB := Aside0.mk (Below.refl w.heap.size w)
 have H : ((laws_szUrl.f a0_0 a0_1 a0_2 a0_3 a0_4 1048576).bind fun t261 => (if t261 < 0 then (some true) else ((laws_toUrl.f a0_0 a0_1 a0_2 a0_3 a0_4).bind fun bt262 => ((spec_UrlOk.f k bt262.1 bt262.2.1 bt262.2.2.1 bt262.2.2.2.1 bt262.2.2.2.2).bind fun t267 => ((laws_toUrl.f a0_0 a0_1 a0_2 a0_3 a0_4).bind fun bt268 => ((impl_UrlOk.f k bt268.1 bt268.2.1 bt268.2.2.1 bt268.2.2.2.1 bt268.2.2.2.2).bind fun t273 => (if (t273 != t267) = true then (some false) else (some true)))))))) = some r := h
 clear h
 replace H := Option.bind_eq_some_iff.mp H
 obtain ⟨t261, A20, H⟩ := H
 try dsimp only at H
 have A2 := Aside0.mk A20
 clear A20
 by_cases c3 : t261 < 0
 ·rw [if_pos c3] at H
  have c3b0 : decide (t261 < 0) = true := decide_eq_true c3
  clear c3
  obtain rfl := Option.some.inj H
  go_enter Tryd.func9, Tryd.ntmps9
  go_wp2_with (first | ((with_reducible refine gate_dst (N := 1) rfl ?_); refine boxP_ (N := 1) (cs := #[.string a0_0, .int .i64 a0_1, .string a0_2, .string a0_3, .bool a0_4]) (t := 41) ?_; intro gb260 hg w4 hbox hb; have BK260 := Aside0.mk (hbox); have GE260 := geb_ (w := w) hg z0; replace HB := Aside0.mk (below_step z0 hb); clear hb hbox hg; obtain ⟨hcz5_0, hcz5_1, hcz5_2, hcz5_3, hcz5_4, hfz5_0, hfz5_1, hfz5_2, hfz5_3, hfz5_4⟩ := cells5_ BK260.out) | ((with_reducible refine gate_callee (f := 25) rfl ?_); refine goesQ_ 8 Tryd.func25 #[.agg #[.string a0_0, .int .i64 a0_1, .string a0_2, .string a0_3, .bool a0_4], .int .i64 1048576] ?_; (with_reducible refine (laws_szUrl.calls a0_0 a0_1 a0_2 a0_3 a0_4 1048576 t261 _ A2.out).mono ?_); rintro e w6 ⟨rfl, hb⟩; refine ⟨_, rfl, ?_⟩; replace BK260 := Aside0.mk (blk_below (g := gb260) (o := .cells #[.string a0_0, .int .i64 a0_1, .string a0_2, .string a0_3, .bool a0_4] 41 (0, 0)) z12 hb); replace HB := Aside0.mk (below_step z9 hb); (try clear hb)))
  go_ret
  exact ⟨z4, z9⟩
 ·rw [if_neg c3] at H
  have c3b0 : decide (t261 < 0) = false := decide_eq_false c3
  clear c3
  replace H := Option.bind_eq_some_iff.mp H
  obtain ⟨⟨t262, t263, t264, t265, t266⟩, A70, H⟩ := H
  try dsimp only at H
  have A7 := Aside0.mk A70
  clear A70
  replace H := Option.bind_eq_some_iff.mp H
  obtain ⟨t267, A80, H⟩ := H
  try dsimp only at H
  have A8 := Aside0.mk A80
  clear A80
  replace H := Option.bind_eq_some_iff.mp H
  obtain ⟨⟨t268, t269, t270, t271, t272⟩, A90, H⟩ := H
  try dsimp only at H
  have A9 := Aside0.mk A90
  clear A90
  replace H := Option.bind_eq_some_iff.mp H
  obtain ⟨t273, A100, H⟩ := H
  try dsimp only at H
  have A10 := Aside0.mk A100
  clear A100
  by_cases c11 : (t273 != t267) = true
  ·rw [if_pos c11] at H
   have c11b0 : (t273 != t267) = true := c11
   (try (have c11b1 : decide (t273 = t267) = false := by simpa using c11))
   (try (have c11b2 : (t273 == t267) = false := by simpa using c11))
   (try (have c11b3 : ¬ (t273 = t267) := by simpa using c11))
   clear c11
   obtain rfl := Option.some.inj H
   go_enter Tryd.func9, Tryd.ntmps9
   go_wp2_with (first | ((with_reducible refine gate_dst (N := 1) rfl ?_); refine boxP_ (N := 1) (cs := #[.string a0_0, .int .i64 a0_1, .string a0_2, .string a0_3, .bool a0_4]) (t := 41) ?_; intro gb260 hg w12 hbox hb; have BK260 := Aside0.mk (hbox); have GE260 := geb_ (w := w) hg z0; replace HB := Aside0.mk (below_step z0 hb); clear hb hbox hg; obtain ⟨hcz13_0, hcz13_1, hcz13_2, hcz13_3, hcz13_4, hfz13_0, hfz13_1, hfz13_2, hfz13_3, hfz13_4⟩ := cells5_ BK260.out) | ((with_reducible refine gate_callee (f := 25) rfl ?_); refine goesQ_ 8 Tryd.func25 #[.agg #[.string a0_0, .int .i64 a0_1, .string a0_2, .string a0_3, .bool a0_4], .int .i64 1048576] ?_; (with_reducible refine (laws_szUrl.calls a0_0 a0_1 a0_2 a0_3 a0_4 1048576 t261 _ A2.out).mono ?_); rintro e w14 ⟨rfl, hb⟩; refine ⟨_, rfl, ?_⟩; replace BK260 := Aside0.mk (blk_below (g := gb260) (o := .cells #[.string a0_0, .int .i64 a0_1, .string a0_2, .string a0_3, .bool a0_4] 41 (0, 0)) z12 hb); replace HB := Aside0.mk (below_step z9 hb); (try clear hb); obtain ⟨hcz15_0, hcz15_1, hcz15_2, hcz15_3, hcz15_4, hfz15_0, hfz15_1, hfz15_2, hfz15_3, hfz15_4⟩ := cells5_ BK260.out) | ((with_reducible refine gate_callee (f := 27) rfl ?_); refine goesQ_ 12 Tryd.func27 #[.agg #[.string a0_0, .int .i64 a0_1, .string a0_2, .string a0_3, .bool a0_4]] ?_; (with_reducible refine (laws_toUrl.calls a0_0 a0_1 a0_2 a0_3 a0_4 t262 t263 t264 t265 t266 _ A7.out).mono ?_); rintro e w16 ⟨rfl, hb⟩; refine ⟨_, rfl, ?_⟩; replace BK260 := Aside0.mk (blk_below (g := gb260) (o := .cells #[.string a0_0, .int .i64 a0_1, .string a0_2, .string a0_3, .bool a0_4] 41 (0, 0)) z12 hb); replace HB := Aside0.mk (below_step z9 hb); (try clear hb)) | ((with_reducible refine gate_callee (f := 26) rfl ?_); refine goesQ_ 13 Tryd.func26 #[.agg #[.string t262, .int .i64 t263, .string t264, .string t265, .bool t266]] ?_; (with_reducible refine (spec_UrlOk.calls k t262 t263 t264 t265 t266 t267 _ A8.out).mono ?_); rintro e w17 ⟨rfl, hb⟩; refine ⟨_, rfl, ?_⟩; replace BK260 := Aside0.mk (blk_below (g := gb260) (o := .cells #[.string a0_0, .int .i64 a0_1, .string a0_2, .string a0_3, .bool a0_4] 41 (0, 0)) z12 hb); replace HB := Aside0.mk (below_step z9 hb); (try clear hb); obtain ⟨hcz18_0, hcz18_1, hcz18_2, hcz18_3, hcz18_4, hfz18_0, hfz18_1, hfz18_2, hfz18_3, hfz18_4⟩ := cells5_ BK260.out) | ((with_reducible refine gate_callee (f := 27) rfl ?_); refine goesQ_ 15 Tryd.func27 #[.agg #[.string a0_0, .int .i64 a0_1, .string a0_2, .string a0_3, .bool a0_4]] ?_; (with_reducible refine (laws_toUrl.calls a0_0 a0_1 a0_2 a0_3 a0_4 t268 t269 t270 t271 t272 _ A9.out).mono ?_); rintro e w19 ⟨rfl, hb⟩; refine ⟨_, rfl, ?_⟩; replace BK260 := Aside0.mk (blk_below (g := gb260) (o := .cells #[.string a0_0, .int .i64 a0_1, .string a0_2, .string a0_3, .bool a0_4] 41 (0, 0)) z12 hb); replace HB := Aside0.mk (below_step z9 hb); (try clear hb)) | ((with_reducible refine gate_callee (f := 28) rfl ?_); refine goesQ_ 16 Tryd.func28 #[.agg #[.string t268, .int .i64 t269, .string t270, .string t271, .bool t272]] ?_; (with_reducible refine (impl_UrlOk.calls k t268 t269 t270 t271 t272 t273 _ ?side1 A10.out).mono ?_); (case side1 => exact Gl.below HG.out z9); rintro e w20 ⟨rfl, hb⟩; refine ⟨_, rfl, ?_⟩; replace BK260 := Aside0.mk (blk_below (g := gb260) (o := .cells #[.string a0_0, .int .i64 a0_1, .string a0_2, .string a0_3, .bool a0_4] 41 (0, 0)) z12 hb); replace HB := Aside0.mk (below_step z9 hb); (try clear hb)))
   go_ret
   exact ⟨z4, z9⟩
  ·rw [if_neg c11] at H
   have c11b0 : (t273 != t267) = false := by simpa using c11
   (try (have c11b1 : decide (t273 = t267) = true := by simpa using c11))
   (try (have c11b2 : (t273 == t267) = true := by simpa using c11))
   clear c11
   obtain rfl := Option.some.inj H
   go_enter Tryd.func9, Tryd.ntmps9
   go_wp2_with (first | ((with_reducible refine gate_dst (N := 1) rfl ?_); refine boxP_ (N := 1) (cs := #[.string a0_0, .int .i64 a0_1, .string a0_2, .string a0_3, .bool a0_4]) (t := 41) ?_; intro gb260 hg w21 hbox hb; have BK260 := Aside0.mk (hbox); have GE260 := geb_ (w := w) hg z0; replace HB := Aside0.mk (below_step z0 hb); clear hb hbox hg; obtain ⟨hcz22_0, hcz22_1, hcz22_2, hcz22_3, hcz22_4, hfz22_0, hfz22_1, hfz22_2, hfz22_3, hfz22_4⟩ := cells5_ BK260.out) | ((with_reducible refine gate_callee (f := 25) rfl ?_); refine goesQ_ 8 Tryd.func25 #[.agg #[.string a0_0, .int .i64 a0_1, .string a0_2, .string a0_3, .bool a0_4], .int .i64 1048576] ?_; (with_reducible refine (laws_szUrl.calls a0_0 a0_1 a0_2 a0_3 a0_4 1048576 t261 _ A2.out).mono ?_); rintro e w23 ⟨rfl, hb⟩; refine ⟨_, rfl, ?_⟩; replace BK260 := Aside0.mk (blk_below (g := gb260) (o := .cells #[.string a0_0, .int .i64 a0_1, .string a0_2, .string a0_3, .bool a0_4] 41 (0, 0)) z12 hb); replace HB := Aside0.mk (below_step z9 hb); (try clear hb); obtain ⟨hcz24_0, hcz24_1, hcz24_2, hcz24_3, hcz24_4, hfz24_0, hfz24_1, hfz24_2, hfz24_3, hfz24_4⟩ := cells5_ BK260.out) | ((with_reducible refine gate_callee (f := 27) rfl ?_); refine goesQ_ 12 Tryd.func27 #[.agg #[.string a0_0, .int .i64 a0_1, .string a0_2, .string a0_3, .bool a0_4]] ?_; (with_reducible refine (laws_toUrl.calls a0_0 a0_1 a0_2 a0_3 a0_4 t262 t263 t264 t265 t266 _ A7.out).mono ?_); rintro e w25 ⟨rfl, hb⟩; refine ⟨_, rfl, ?_⟩; replace BK260 := Aside0.mk (blk_below (g := gb260) (o := .cells #[.string a0_0, .int .i64 a0_1, .string a0_2, .string a0_3, .bool a0_4] 41 (0, 0)) z12 hb); replace HB := Aside0.mk (below_step z9 hb); (try clear hb)) | ((with_reducible refine gate_callee (f := 26) rfl ?_); refine goesQ_ 13 Tryd.func26 #[.agg #[.string t262, .int .i64 t263, .string t264, .string t265, .bool t266]] ?_; (with_reducible refine (spec_UrlOk.calls k t262 t263 t264 t265 t266 t267 _ A8.out).mono ?_); rintro e w26 ⟨rfl, hb⟩; refine ⟨_, rfl, ?_⟩; replace BK260 := Aside0.mk (blk_below (g := gb260) (o := .cells #[.string a0_0, .int .i64 a0_1, .string a0_2, .string a0_3, .bool a0_4] 41 (0, 0)) z12 hb); replace HB := Aside0.mk (below_step z9 hb); (try clear hb); obtain ⟨hcz27_0, hcz27_1, hcz27_2, hcz27_3, hcz27_4, hfz27_0, hfz27_1, hfz27_2, hfz27_3, hfz27_4⟩ := cells5_ BK260.out) | ((with_reducible refine gate_callee (f := 27) rfl ?_); refine goesQ_ 15 Tryd.func27 #[.agg #[.string a0_0, .int .i64 a0_1, .string a0_2, .string a0_3, .bool a0_4]] ?_; (with_reducible refine (laws_toUrl.calls a0_0 a0_1 a0_2 a0_3 a0_4 t268 t269 t270 t271 t272 _ A9.out).mono ?_); rintro e w28 ⟨rfl, hb⟩; refine ⟨_, rfl, ?_⟩; replace BK260 := Aside0.mk (blk_below (g := gb260) (o := .cells #[.string a0_0, .int .i64 a0_1, .string a0_2, .string a0_3, .bool a0_4] 41 (0, 0)) z12 hb); replace HB := Aside0.mk (below_step z9 hb); (try clear hb)) | ((with_reducible refine gate_callee (f := 28) rfl ?_); refine goesQ_ 16 Tryd.func28 #[.agg #[.string t268, .int .i64 t269, .string t270, .string t271, .bool t272]] ?_; (with_reducible refine (impl_UrlOk.calls k t268 t269 t270 t271 t272 t273 _ ?side1 A10.out).mono ?_); (case side1 => exact Gl.below HG.out z9); rintro e w29 ⟨rfl, hb⟩; refine ⟨_, rfl, ?_⟩; replace BK260 := Aside0.mk (blk_below (g := gb260) (o := .cells #[.string a0_0, .int .i64 a0_1, .string a0_2, .string a0_3, .bool a0_4] 41 (0, 0)) z12 hb); replace HB := Aside0.mk (below_step z9 hb); (try clear hb)))
   go_ret
   exact ⟨z4, z9⟩

/-- THE ONE PURE STATEMENT of laws_FnExactUrlOk. -/
def laws_FnExactUrlOk.Pure : Prop := ∀ (a0_0 : ByteArray) (a0_1 : Int) (a0_2 : ByteArray) (a0_3 : ByteArray) (a0_4 : Bool), ((a0_0.size ≤ 9223372036854775807) ∧ ((Lit.int .i64 a0_1).wf = true) ∧ (a0_2.size ≤ 9223372036854775807) ∧ (a0_3.size ≤ 9223372036854775807) ∧ (True)) → ∃ k, laws_FnExactUrlOk.f k a0_0 a0_1 a0_2 a0_3 a0_4 = some true
theorem laws_FnExactUrlOk.walk (P : laws_FnExactUrlOk.Pure) (a0_0 : ByteArray) (a0_1 : Int) (a0_2 : ByteArray) (a0_3 : ByteArray) (a0_4 : Bool) (w : World) (hG : Gl w) (ok_0 : (a0_0.size ≤ 9223372036854775807) ∧ ((Lit.int .i64 a0_1).wf = true) ∧ (a0_2.size ≤ 9223372036854775807) ∧ (a0_3.size ≤ 9223372036854775807) ∧ (True)) :
  Calls Tryd.prog 9 #[.agg #[.string a0_0, .int .i64 a0_1, .string a0_2, .string a0_3, .bool a0_4]] w fun e w' => e = .returned (.bool true) ∧ Below w.heap.size w w' := by
 obtain ⟨k, h⟩ := P a0_0 a0_1 a0_2 a0_3 a0_4 ok_0
 refine (laws_FnExactUrlOk.calls k a0_0 a0_1 a0_2 a0_3 a0_4 true w hG h).mono ?_
 rintro e w' ⟨rfl, hd⟩
 exact ⟨rfl, hd⟩

end Go.Proofs.YtnfjjbpochmhpaaDoor.GFnExactUrlOk
