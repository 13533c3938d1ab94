-- Laid by gen.py of this session (over the kit's printing program): what the law FnExactUrlText reaches, as Lean functions, and that Go comes to just that.
import Derived.Test.YtjifjfgehabkcaaDoorGFnExactUrlTextx0
import Derived.Test.YtjifjfgehabkcaaDoorGFnExactUrlTextx1
import Derived.Test.YtjifjfgehabkcaaDoorGFnExactUrlTextx8
import Derived.Test.YtjifjfgehabkcaaDoorGFnExactUrlTextx12
import Derived.Test.YtjifjfgehabkcaaDoorZFnExactUrlText
namespace Go.Proofs.YtjifjfgehabkcaaDoor.GFnExactUrlText
open Go.RowKit Go.Proofs.YtjifjfgehabkcaaDoorW.PrintWords Go.Proofs.YtjifjfgehabkcaaDoorW.PrintLast Go.Proofs.YtjifjfgehabkcaaDoorW.PrintMore Go.Proofs.YtjifjfgehabkcaaDoorW.Zs
attribute [local go_sem] max2_int min2_int max_two min_two max_three min_three max_four min_four   -- for this text's walks alone
set_option linter.unusedVariables false
set_option linter.unusedSimpArgs false

/-! ### impl_UrlText: function 12 -/
def impl_UrlText.f (k : Nat) (a0_0 : ByteArray) (a0_1 : Int) (a0_2 : ByteArray) (a0_3 : ByteArray) (a0_4 : Bool) : Option (ByteArray) := (impl_UrlOk.f k a0_0 a0_1 a0_2 a0_3 a0_4).bind fun t264 => (if t264 = true then ((impl_urlText.f a0_0 a0_1 a0_2 a0_3 a0_4).bind fun t265 => (some t265)) else (some (⟨#[]⟩ : ByteArray)))
theorem impl_UrlText.mono : ∀ a0 a1 a2 a3 a4 k, LeO (impl_UrlText.f k a0 a1 a2 a3 a4) (impl_UrlText.f (k + 1) a0 a1 a2 a3 a4) := by
 intro a0 a1 a2 a3 a4 k
 unfold impl_UrlText.f
 repeat' first | (with_reducible first | exact impl_UrlOk.mono _ _ _ _ _ _ | exact LeO.refl _ | exact LeO.none _ | refine LeO.ite ?_ ?_ | refine LeO.bind ?_ (fun _ => ?_)) | exact impl_UrlOk.mono _ _ _ _ _ _ | exact LeO.none _ | refine LeO.ite ?_ ?_ | refine LeO.bind ?_ (fun _ => ?_)
set_option maxHeartbeats 8000000 in
set_option maxRecDepth 100000 in
theorem impl_UrlText.calls (k : Nat) (a0_0 : ByteArray) (a0_1 : Int) (a0_2 : ByteArray) (a0_3 : ByteArray) (a0_4 : Bool) (r : ByteArray) (w : World) (hG : Gl w) (h : impl_UrlText.f k a0_0 a0_1 a0_2 a0_3 a0_4 = some r) :
  Calls Tryd.prog 12 #[.agg #[.string a0_0, .int .i64 a0_1, .string a0_2, .string a0_3, .bool a0_4]] w fun e w' => e = .returned (.string r) ∧ Below w.heap.size w w' := by
 have hu26 := Tryd.underlying26
 have HG := Aside0.mk hG
 clear hG
 have HB := Aside0.mk (Below.refl w.heap.size w)
 have H : ((impl_UrlOk.f k a0_0 a0_1 a0_2 a0_3 a0_4).bind fun t264 => (if t264 = true then ((impl_urlText.f a0_0 a0_1 a0_2 a0_3 a0_4).bind fun t265 => (some t265)) else (some (⟨#[]⟩ : ByteArray)))) = some r := h
 clear h
 replace H := Option.bind_eq_some_iff.mp H
 obtain ⟨t264, A20, H⟩ := H
 try dsimp only at H
 have A2 := Aside0.mk A20
 clear A20
 by_cases c3 : t264 = true
 ·subst c3
  rw [if_pos rfl] at H
  replace H := Option.bind_eq_some_iff.mp H
  obtain ⟨t265, A40, H⟩ := H
  try dsimp only at H
  have A4 := Aside0.mk A40
  clear A40
  obtain rfl := Option.some.inj H
  go_enter Tryd.func12, Tryd.ntmps12
  go_wp2_with (first | ((with_reducible refine gate_dst (N := 1) rfl ?_); refine boxP_ (N := 1) (cs := #[.string a0_0, .int .i64 a0_1, .string a0_2, .string a0_3, .bool a0_4]) (t := 26) ?_; intro gb263 hg w5 hbox hb; have BK263 := Aside0.mk (hbox); have GE263 := geb_ (w := w) hg z0; replace HB := Aside0.mk (below_step z0 hb); clear hb hbox hg; obtain ⟨hcz6_0, hcz6_1, hcz6_2, hcz6_3, hcz6_4, hfz6_0, hfz6_1, hfz6_2, hfz6_3, hfz6_4⟩ := cells5_ BK263.out) | ((with_reducible refine gate_callee (f := 22) rfl ?_); refine goesQ_ 4 Tryd.func22 #[.agg #[.string a0_0, .int .i64 a0_1, .string a0_2, .string a0_3, .bool a0_4]] ?_; (with_reducible refine (impl_UrlOk.calls k a0_0 a0_1 a0_2 a0_3 a0_4 true _ ?side1 A2.out).mono ?_); (case side1 => exact Gl.below HG.out z13); rintro e w7 ⟨rfl, hb⟩; refine ⟨_, rfl, ?_⟩; replace BK263 := Aside0.mk (blk_below (g := gb263) (o := .cells #[.string a0_0, .int .i64 a0_1, .string a0_2, .string a0_3, .bool a0_4] 26 (0, 0)) z36 hb); replace HB := Aside0.mk (below_step z13 hb); (try clear hb); obtain ⟨hcz8_0, hcz8_1, hcz8_2, hcz8_3, hcz8_4, hfz8_0, hfz8_1, hfz8_2, hfz8_3, hfz8_4⟩ := cells5_ BK263.out) | ((with_reducible refine gate_callee (f := 25) rfl ?_); refine goesQ_ 7 Tryd.func25 #[.agg #[.string a0_0, .int .i64 a0_1, .string a0_2, .string a0_3, .bool a0_4]] ?_; (with_reducible refine (impl_urlText.calls a0_0 a0_1 a0_2 a0_3 a0_4 t265 _ ?side1 A4.out).mono ?_); (case side1 => exact Gl.below HG.out z13); rintro e w9 ⟨rfl, hb⟩; refine ⟨_, rfl, ?_⟩; replace BK263 := Aside0.mk (blk_below (g := gb263) (o := .cells #[.string a0_0, .int .i64 a0_1, .string a0_2, .string a0_3, .bool a0_4] 26 (0, 0)) z36 hb); replace HB := Aside0.mk (below_step z13 hb); (try clear hb)))
  go_ret
  exact ⟨z3, z13⟩
 ·replace c3 := Bool.eq_false_iff.mpr c3
  subst c3
  rw [if_neg Bool.false_ne_true] at H
  obtain rfl := Option.some.inj H
  go_enter Tryd.func12, Tryd.ntmps12
  go_wp2_with (first | ((with_reducible refine gate_dst (N := 1) rfl ?_); refine boxP_ (N := 1) (cs := #[.string a0_0, .int .i64 a0_1, .string a0_2, .string a0_3, .bool a0_4]) (t := 26) ?_; intro gb263 hg w10 hbox hb; have BK263 := Aside0.mk (hbox); have GE263 := geb_ (w := w) hg z0; replace HB := Aside0.mk (below_step z0 hb); clear hb hbox hg; obtain ⟨hcz11_0, hcz11_1, hcz11_2, hcz11_3, hcz11_4, hfz11_0, hfz11_1, hfz11_2, hfz11_3, hfz11_4⟩ := cells5_ BK263.out) | ((with_reducible refine gate_callee (f := 22) rfl ?_); refine goesQ_ 4 Tryd.func22 #[.agg #[.string a0_0, .int .i64 a0_1, .string a0_2, .string a0_3, .bool a0_4]] ?_; (with_reducible refine (impl_UrlOk.calls k a0_0 a0_1 a0_2 a0_3 a0_4 false _ ?side1 A2.out).mono ?_); (case side1 => exact Gl.below HG.out z13); rintro e w12 ⟨rfl, hb⟩; refine ⟨_, rfl, ?_⟩; replace BK263 := Aside0.mk (blk_below (g := gb263) (o := .cells #[.string a0_0, .int .i64 a0_1, .string a0_2, .string a0_3, .bool a0_4] 26 (0, 0)) z36 hb); replace HB := Aside0.mk (below_step z13 hb); (try clear hb)))
  go_ret
  exact ⟨z3, z13⟩

/-! ### laws_FnExactUrlText: function 4 -/
def laws_FnExactUrlText.f (k : Nat) (a0_0 : ByteArray) (a0_1 : Int) (a0_2 : ByteArray) (a0_3 : ByteArray) (a0_4 : Bool) : Option (Bool) := (laws_szUrl.f a0_0 a0_1 a0_2 a0_3 a0_4 1048576).bind fun t267 => (if t267 < 0 then (some true) else ((laws_toUrl.f a0_0 a0_1 a0_2 a0_3 a0_4).bind fun bt268 => ((spec_UrlText.f k bt268.1 bt268.2.1 bt268.2.2.1 bt268.2.2.2.1 bt268.2.2.2.2).bind fun t273 => ((laws_toUrl.f a0_0 a0_1 a0_2 a0_3 a0_4).bind fun bt274 => ((impl_UrlText.f k bt274.1 bt274.2.1 bt274.2.2.1 bt274.2.2.2.1 bt274.2.2.2.2).bind fun t279 => (if t279.toList = t273.toList then (some true) else (some false)))))))
theorem laws_FnExactUrlText.mono : ∀ a0 a1 a2 a3 a4 k, LeO (laws_FnExactUrlText.f k a0 a1 a2 a3 a4) (laws_FnExactUrlText.f (k + 1) a0 a1 a2 a3 a4) := by
 intro a0 a1 a2 a3 a4 k
 unfold laws_FnExactUrlText.f
 repeat' first | (with_reducible first | exact impl_UrlText.mono _ _ _ _ _ _ | exact spec_UrlText.mono _ _ _ _ _ _ | exact LeO.refl _ | exact LeO.none _ | refine LeO.ite ?_ ?_ | refine LeO.bind ?_ (fun _ => ?_)) | exact impl_UrlText.mono _ _ _ _ _ _ | exact spec_UrlText.mono _ _ _ _ _ _ | exact LeO.none _ | refine LeO.ite ?_ ?_ | refine LeO.bind ?_ (fun _ => ?_)
set_option maxHeartbeats 8000000 in
set_option maxRecDepth 100000 in
theorem laws_FnExactUrlText.calls (k : Nat) (a0_0 : ByteArray) (a0_1 : Int) (a0_2 : ByteArray) (a0_3 : ByteArray) (a0_4 : Bool) (r : Bool) (w : World) (hG : Gl w) (h : laws_FnExactUrlText.f k a0_0 a0_1 a0_2 a0_3 a0_4 = some r) :
  Calls Tryd.prog 4 #[.agg #[.string a0_0, .int .i64 a0_1, .string a0_2, .string a0_3, .bool a0_4]] w fun e w' => e = .returned (.bool r) ∧ Below w.heap.size w w' := by
 have hu23 := Tryd.underlying23
 have HG := Aside0.mk hG
 clear hG
 have HB := Aside0.mk (Below.refl w.heap.size w)
 have H : ((laws_szUrl.f a0_0 a0_1 a0_2 a0_3 a0_4 1048576).bind fun t267 => (if t267 < 0 then (some true) else ((laws_toUrl.f a0_0 a0_1 a0_2 a0_3 a0_4).bind fun bt268 => ((spec_UrlText.f k bt268.1 bt268.2.1 bt268.2.2.1 bt268.2.2.2.1 bt268.2.2.2.2).bind fun t273 => ((laws_toUrl.f a0_0 a0_1 a0_2 a0_3 a0_4).bind fun bt274 => ((impl_UrlText.f k bt274.1 bt274.2.1 bt274.2.2.1 bt274.2.2.2.1 bt274.2.2.2.2).bind fun t279 => (if t279.toList = t273.toList then (some true) else (some false)))))))) = some r := h
 clear h
 replace H := Option.bind_eq_some_iff.mp H
 obtain ⟨t267, A20, H⟩ := H
 try dsimp only at H
 have A2 := Aside0.mk A20
 clear A20
 by_cases c3 : t267 < 0
 ·rw [if_pos c3] at H
  have c3b0 : decide (t267 < 0) = true := decide_eq_true c3
  clear c3
  obtain rfl := Option.some.inj H
  go_enter Tryd.func4, Tryd.ntmps4
  go_wp2_with (first | ((with_reducible refine gate_dst (N := 1) rfl ?_); refine boxP_ (N := 1) (cs := #[.string a0_0, .int .i64 a0_1, .string a0_2, .string a0_3, .bool a0_4]) (t := 23) ?_; intro gb266 hg w4 hbox hb; have BK266 := Aside0.mk (hbox); have GE266 := geb_ (w := w) hg z0; replace HB := Aside0.mk (below_step z0 hb); clear hb hbox hg; obtain ⟨hcz5_0, hcz5_1, hcz5_2, hcz5_3, hcz5_4, hfz5_0, hfz5_1, hfz5_2, hfz5_3, hfz5_4⟩ := cells5_ BK266.out) | ((with_reducible refine gate_callee (f := 7) rfl ?_); refine goesQ_ 8 Tryd.func7 #[.agg #[.string a0_0, .int .i64 a0_1, .string a0_2, .string a0_3, .bool a0_4], .int .i64 1048576] ?_; (with_reducible refine (laws_szUrl.calls a0_0 a0_1 a0_2 a0_3 a0_4 1048576 t267 _ A2.out).mono ?_); rintro e w6 ⟨rfl, hb⟩; refine ⟨_, rfl, ?_⟩; replace BK266 := Aside0.mk (blk_below (g := gb266) (o := .cells #[.string a0_0, .int .i64 a0_1, .string a0_2, .string a0_3, .bool a0_4] 23 (0, 0)) z12 hb); replace HB := Aside0.mk (below_step z9 hb); (try clear hb)))
  go_ret
  exact ⟨z3, z9⟩
 ·rw [if_neg c3] at H
  have c3b0 : decide (t267 < 0) = false := decide_eq_false c3
  clear c3
  replace H := Option.bind_eq_some_iff.mp H
  obtain ⟨⟨t268, t269, t270, t271, t272⟩, A70, H⟩ := H
  try dsimp only at H
  have A7 := Aside0.mk A70
  clear A70
  replace H := Option.bind_eq_some_iff.mp H
  obtain ⟨t273, A80, H⟩ := H
  try dsimp only at H
  have A8 := Aside0.mk A80
  clear A80
  replace H := Option.bind_eq_some_iff.mp H
  obtain ⟨⟨t274, t275, t276, t277, t278⟩, A90, H⟩ := H
  try dsimp only at H
  have A9 := Aside0.mk A90
  clear A90
  replace H := Option.bind_eq_some_iff.mp H
  obtain ⟨t279, A100, H⟩ := H
  try dsimp only at H
  have A10 := Aside0.mk A100
  clear A100
  by_cases c11 : t279.toList = t273.toList
  ·rw [if_pos c11] at H
   have c11b0 : (t279.toList == t273.toList) = true := beq_iff_eq.mpr c11
   have c11b1 : (t279.toList != t273.toList) = false := bne_eq_false_iff_eq.mpr c11
   clear c11
   obtain rfl := Option.some.inj H
   go_enter Tryd.func4, Tryd.ntmps4
   go_wp2_with (first | ((with_reducible refine gate_dst (N := 1) rfl ?_); refine boxP_ (N := 1) (cs := #[.string a0_0, .int .i64 a0_1, .string a0_2, .string a0_3, .bool a0_4]) (t := 23) ?_; intro gb266 hg w12 hbox hb; have BK266 := Aside0.mk (hbox); have GE266 := geb_ (w := w) hg z0; replace HB := Aside0.mk (below_step z0 hb); clear hb hbox hg; obtain ⟨hcz13_0, hcz13_1, hcz13_2, hcz13_3, hcz13_4, hfz13_0, hfz13_1, hfz13_2, hfz13_3, hfz13_4⟩ := cells5_ BK266.out) | ((with_reducible refine gate_callee (f := 7) rfl ?_); refine goesQ_ 8 Tryd.func7 #[.agg #[.string a0_0, .int .i64 a0_1, .string a0_2, .string a0_3, .bool a0_4], .int .i64 1048576] ?_; (with_reducible refine (laws_szUrl.calls a0_0 a0_1 a0_2 a0_3 a0_4 1048576 t267 _ A2.out).mono ?_); rintro e w14 ⟨rfl, hb⟩; refine ⟨_, rfl, ?_⟩; replace BK266 := Aside0.mk (blk_below (g := gb266) (o := .cells #[.string a0_0, .int .i64 a0_1, .string a0_2, .string a0_3, .bool a0_4] 23 (0, 0)) z12 hb); replace HB := Aside0.mk (below_step z9 hb); (try clear hb); obtain ⟨hcz15_0, hcz15_1, hcz15_2, hcz15_3, hcz15_4, hfz15_0, hfz15_1, hfz15_2, hfz15_3, hfz15_4⟩ := cells5_ BK266.out) | ((with_reducible refine gate_callee (f := 9) rfl ?_); refine goesQ_ 12 Tryd.func9 #[.agg #[.string a0_0, .int .i64 a0_1, .string a0_2, .string a0_3, .bool a0_4]] ?_; (with_reducible refine (laws_toUrl.calls a0_0 a0_1 a0_2 a0_3 a0_4 t268 t269 t270 t271 t272 _ A7.out).mono ?_); rintro e w16 ⟨rfl, hb⟩; refine ⟨_, rfl, ?_⟩; replace BK266 := Aside0.mk (blk_below (g := gb266) (o := .cells #[.string a0_0, .int .i64 a0_1, .string a0_2, .string a0_3, .bool a0_4] 23 (0, 0)) z12 hb); replace HB := Aside0.mk (below_step z9 hb); (try clear hb)) | ((with_reducible refine gate_callee (f := 11) rfl ?_); refine goesQ_ 13 Tryd.func11 #[.agg #[.string t268, .int .i64 t269, .string t270, .string t271, .bool t272]] ?_; (with_reducible refine (spec_UrlText.calls k t268 t269 t270 t271 t272 t273 _ A8.out).mono ?_); rintro e w17 ⟨rfl, hb⟩; refine ⟨_, rfl, ?_⟩; replace BK266 := Aside0.mk (blk_below (g := gb266) (o := .cells #[.string a0_0, .int .i64 a0_1, .string a0_2, .string a0_3, .bool a0_4] 23 (0, 0)) z12 hb); replace HB := Aside0.mk (below_step z9 hb); (try clear hb); obtain ⟨hcz18_0, hcz18_1, hcz18_2, hcz18_3, hcz18_4, hfz18_0, hfz18_1, hfz18_2, hfz18_3, hfz18_4⟩ := cells5_ BK266.out) | ((with_reducible refine gate_callee (f := 9) rfl ?_); refine goesQ_ 15 Tryd.func9 #[.agg #[.string a0_0, .int .i64 a0_1, .string a0_2, .string a0_3, .bool a0_4]] ?_; (with_reducible refine (laws_toUrl.calls a0_0 a0_1 a0_2 a0_3 a0_4 t274 t275 t276 t277 t278 _ A9.out).mono ?_); rintro e w19 ⟨rfl, hb⟩; refine ⟨_, rfl, ?_⟩; replace BK266 := Aside0.mk (blk_below (g := gb266) (o := .cells #[.string a0_0, .int .i64 a0_1, .string a0_2, .string a0_3, .bool a0_4] 23 (0, 0)) z12 hb); replace HB := Aside0.mk (below_step z9 hb); (try clear hb)) | ((with_reducible refine gate_callee (f := 12) rfl ?_); refine goesQ_ 16 Tryd.func12 #[.agg #[.string t274, .int .i64 t275, .string t276, .string t277, .bool t278]] ?_; (with_reducible refine (impl_UrlText.calls k t274 t275 t276 t277 t278 t279 _ ?side1 A10.out).mono ?_); (case side1 => exact Gl.below HG.out z9); rintro e w20 ⟨rfl, hb⟩; refine ⟨_, rfl, ?_⟩; replace BK266 := Aside0.mk (blk_below (g := gb266) (o := .cells #[.string a0_0, .int .i64 a0_1, .string a0_2, .string a0_3, .bool a0_4] 23 (0, 0)) z12 hb); replace HB := Aside0.mk (below_step z9 hb); (try clear hb)))
   go_ret
   exact ⟨z3, z9⟩
  ·rw [if_neg c11] at H
   have c11b0 : (t279.toList == t273.toList) = false := beq_eq_false_iff_ne.mpr c11
   have c11b1 : (t279.toList != t273.toList) = true := bne_iff_ne.mpr c11
   obtain rfl := Option.some.inj H
   go_enter Tryd.func4, Tryd.ntmps4
   go_wp2_with (first | ((with_reducible refine gate_dst (N := 1) rfl ?_); refine boxP_ (N := 1) (cs := #[.string a0_0, .int .i64 a0_1, .string a0_2, .string a0_3, .bool a0_4]) (t := 23) ?_; intro gb266 hg w21 hbox hb; have BK266 := Aside0.mk (hbox); have GE266 := geb_ (w := w) hg z0; replace HB := Aside0.mk (below_step z0 hb); clear hb hbox hg; obtain ⟨hcz22_0, hcz22_1, hcz22_2, hcz22_3, hcz22_4, hfz22_0, hfz22_1, hfz22_2, hfz22_3, hfz22_4⟩ := cells5_ BK266.out) | ((with_reducible refine gate_callee (f := 7) rfl ?_); refine goesQ_ 8 Tryd.func7 #[.agg #[.string a0_0, .int .i64 a0_1, .string a0_2, .string a0_3, .bool a0_4], .int .i64 1048576] ?_; (with_reducible refine (laws_szUrl.calls a0_0 a0_1 a0_2 a0_3 a0_4 1048576 t267 _ A2.out).mono ?_); rintro e w23 ⟨rfl, hb⟩; refine ⟨_, rfl, ?_⟩; replace BK266 := Aside0.mk (blk_below (g := gb266) (o := .cells #[.string a0_0, .int .i64 a0_1, .string a0_2, .string a0_3, .bool a0_4] 23 (0, 0)) z12 hb); replace HB := Aside0.mk (below_step z9 hb); (try clear hb); obtain ⟨hcz24_0, hcz24_1, hcz24_2, hcz24_3, hcz24_4, hfz24_0, hfz24_1, hfz24_2, hfz24_3, hfz24_4⟩ := cells5_ BK266.out) | ((with_reducible refine gate_callee (f := 9) rfl ?_); refine goesQ_ 12 Tryd.func9 #[.agg #[.string a0_0, .int .i64 a0_1, .string a0_2, .string a0_3, .bool a0_4]] ?_; (with_reducible refine (laws_toUrl.calls a0_0 a0_1 a0_2 a0_3 a0_4 t268 t269 t270 t271 t272 _ A7.out).mono ?_); rintro e w25 ⟨rfl, hb⟩; refine ⟨_, rfl, ?_⟩; replace BK266 := Aside0.mk (blk_below (g := gb266) (o := .cells #[.string a0_0, .int .i64 a0_1, .string a0_2, .string a0_3, .bool a0_4] 23 (0, 0)) z12 hb); replace HB := Aside0.mk (below_step z9 hb); (try clear hb)) | ((with_reducible refine gate_callee (f := 11) rfl ?_); refine goesQ_ 13 Tryd.func11 #[.agg #[.string t268, .int .i64 t269, .string t270, .string t271, .bool t272]] ?_; (with_reducible refine (spec_UrlText.calls k t268 t269 t270 t271 t272 t273 _ A8.out).mono ?_); rintro e w26 ⟨rfl, hb⟩; refine ⟨_, rfl, ?_⟩; replace BK266 := Aside0.mk (blk_below (g := gb266) (o := .cells #[.string a0_0, .int .i64 a0_1, .string a0_2, .string a0_3, .bool a0_4] 23 (0, 0)) z12 hb); replace HB := Aside0.mk (below_step z9 hb); (try clear hb); obtain ⟨hcz27_0, hcz27_1, hcz27_2, hcz27_3, hcz27_4, hfz27_0, hfz27_1, hfz27_2, hfz27_3, hfz27_4⟩ := cells5_ BK266.out) | ((with_reducible refine gate_callee (f := 9) rfl ?_); refine goesQ_ 15 Tryd.func9 #[.agg #[.string a0_0, .int .i64 a0_1, .string a0_2, .string a0_3, .bool a0_4]] ?_; (with_reducible refine (laws_toUrl.calls a0_0 a0_1 a0_2 a0_3 a0_4 t274 t275 t276 t277 t278 _ A9.out).mono ?_); rintro e w28 ⟨rfl, hb⟩; refine ⟨_, rfl, ?_⟩; replace BK266 := Aside0.mk (blk_below (g := gb266) (o := .cells #[.string a0_0, .int .i64 a0_1, .string a0_2, .string a0_3, .bool a0_4] 23 (0, 0)) z12 hb); replace HB := Aside0.mk (below_step z9 hb); (try clear hb)) | ((with_reducible refine gate_callee (f := 12) rfl ?_); refine goesQ_ 16 Tryd.func12 #[.agg #[.string t274, .int .i64 t275, .string t276, .string t277, .bool t278]] ?_; (with_reducible refine (impl_UrlText.calls k t274 t275 t276 t277 t278 t279 _ ?side1 A10.out).mono ?_); (case side1 => exact Gl.below HG.out z9); rintro e w29 ⟨rfl, hb⟩; refine ⟨_, rfl, ?_⟩; replace BK266 := Aside0.mk (blk_below (g := gb266) (o := .cells #[.string a0_0, .int .i64 a0_1, .string a0_2, .string a0_3, .bool a0_4] 23 (0, 0)) z12 hb); replace HB := Aside0.mk (below_step z9 hb); (try clear hb)))
   go_ret
   exact ⟨z3, z9⟩

/-- THE ONE PURE STATEMENT of laws_FnExactUrlText. -/
def laws_FnExactUrlText.Pure : Prop := ∀ (a0_0 : ByteArray) (a0_1 : Int) (a0_2 : ByteArray) (a0_3 : ByteArray) (a0_4 : Bool), ((a0_0.size ≤ 9223372036854775807) ∧ ((Lit.int .i64 a0_1).wf = true) ∧ (a0_2.size ≤ 9223372036854775807) ∧ (a0_3.size ≤ 9223372036854775807) ∧ (True)) → ∃ k, laws_FnExactUrlText.f k a0_0 a0_1 a0_2 a0_3 a0_4 = some true
theorem laws_FnExactUrlText.walk (P : laws_FnExactUrlText.Pure) (a0_0 : ByteArray) (a0_1 : Int) (a0_2 : ByteArray) (a0_3 : ByteArray) (a0_4 : Bool) (w : World) (hG : Gl w) (ok_0 : (a0_0.size ≤ 9223372036854775807) ∧ ((Lit.int .i64 a0_1).wf = true) ∧ (a0_2.size ≤ 9223372036854775807) ∧ (a0_3.size ≤ 9223372036854775807) ∧ (True)) :
  Calls Tryd.prog 4 #[.agg #[.string a0_0, .int .i64 a0_1, .string a0_2, .string a0_3, .bool a0_4]] w fun e w' => e = .returned (.bool true) ∧ Below w.heap.size w w' := by
 obtain ⟨k, h⟩ := P a0_0 a0_1 a0_2 a0_3 a0_4 ok_0
 refine (laws_FnExactUrlText.calls k a0_0 a0_1 a0_2 a0_3 a0_4 true w hG h).mono ?_
 rintro e w' ⟨rfl, hd⟩
 exact ⟨rfl, hd⟩

end Go.Proofs.YtjifjfgehabkcaaDoor.GFnExactUrlText
