-- Laid by gen.py of this session (over the kit's printing program): what the law FnExactUnsurt reaches, as Lean functions, and that Go comes to just that.
import Derived.Test.YtcplgnikihjilaaGreatDoorGFnExactUnsurtx0
import Derived.Test.YtcplgnikihjilaaGreatDoorGFnExactUnsurtx1
import Derived.Test.YtcplgnikihjilaaGreatDoorGFnExactUnsurtx7
import Derived.Test.YtcplgnikihjilaaGreatDoorGFnExactUnsurtx8
import Derived.Test.YtcplgnikihjilaaGreatDoorGFnExactUnsurtx12
import Derived.Test.YtcplgnikihjilaaGreatDoorGFnExactUnsurtx13
import Derived.Test.YtcplgnikihjilaaGreatDoorZFnExactUnsurt
namespace Go.Proofs.YtcplgnikihjilaaGreatDoor.GFnExactUnsurt
open Go.RowKit Go.Proofs.YtcplgnikihjilaaGreatDoorW.PrintWords Go.Proofs.YtcplgnikihjilaaGreatDoorW.PrintLast Go.Proofs.YtcplgnikihjilaaGreatDoorW.PrintMore Go.Proofs.YtcplgnikihjilaaGreatDoorW.Zs
attribute [local go_sem] max2_int min2_int max_two min_two max_three min_three max_four min_four   -- for this text's walks alone
set_option linter.unusedVariables false
set_option linter.unusedSimpArgs false

/-! ### impl_Unsurt: function 13 -/
def impl_Unsurt.j0 : Nat → ByteArray → ByteArray → Int → ByteArray → ByteArray → Bool → Option (ByteArray × Int × ByteArray × ByteArray × Bool × Bool)
 | 0, _, _, _, _, _, _ => none
 | k + 1, x0, x322000, x322001, x322002, x322003, x322004 => (impl_UrlOk.f k x322000 x322001 x322002 x322003 x322004).bind fun t331 => (if t331 = true then ((impl_Surt.f k x322000 x322001 x322002 x322003 x322004).bind fun t332 => (if t332.toList = x0.toList then (some (x322000, x322001, x322002, x322003, x322004, true)) else (some ((⟨#[]⟩ : ByteArray), 0, (⟨#[]⟩ : ByteArray), (⟨#[]⟩ : ByteArray), false, false)))) else (some ((⟨#[]⟩ : ByteArray), 0, (⟨#[]⟩ : ByteArray), (⟨#[]⟩ : ByteArray), false, false)))
def impl_Unsurt.f (k : Nat) (a0 : ByteArray) : Option (ByteArray × Int × ByteArray × ByteArray × Bool × Bool) := (strings_Cut.f a0 (⟨#[41]⟩ : ByteArray)).bind fun bt310 => (if bt310.2.2 = true then ((strings_Cut.f bt310.1 (⟨#[58]⟩ : ByteArray)).bind fun bt313 => ((impl_readPath.f bt310.2.1).bind fun bt316 => ((strings_Split.f bt313.1 (⟨#[44]⟩ : ByteArray)).bind fun t322 => ((impl_turned.f k t322).bind fun t325 => ((strings_Join.f t325 (⟨#[46]⟩ : ByteArray)).bind fun t328 => (if bt313.2.2 = true then ((impl_ReadDec.f bt313.2.1).bind fun bt329 => (impl_Unsurt.j0 k a0 t328 bt329.1 bt316.2.2.1 bt316.2.2.2.1 bt316.2.2.2.2)) else (impl_Unsurt.j0 k a0 t328 80 bt316.2.2.1 bt316.2.2.2.1 bt316.2.2.2.2))))))) else (some ((⟨#[]⟩ : ByteArray), 0, (⟨#[]⟩ : ByteArray), (⟨#[]⟩ : ByteArray), false, false)))
theorem impl_Unsurt.mono_l : ∀ k, (∀ y0 y1 y2 y3 y4 y5, LeO (impl_Unsurt.j0 k y0 y1 y2 y3 y4 y5) (impl_Unsurt.j0 (k + 1) y0 y1 y2 y3 y4 y5))
 | 0 => fun _ _ _ _ _ _ r h => by simp [impl_Unsurt.j0] at h
 | k + 1 => by
  have ih0 := impl_Unsurt.mono_l k
  ·intro y0 y1 y2 y3 y4 y5
   unfold impl_Unsurt.j0
   repeat' first | (with_reducible first | exact ih0 _ _ _ _ _ _ | exact impl_Surt.mono _ _ _ _ _ _ | exact impl_UrlOk.mono _ _ _ _ _ _ | exact impl_turned.mono _ _ | exact LeO.refl _ | exact LeO.none _ | refine LeO.ite ?_ ?_ | refine LeO.bind ?_ (fun _ => ?_)) | exact ih0 _ _ _ _ _ _ | exact impl_Surt.mono _ _ _ _ _ _ | exact impl_UrlOk.mono _ _ _ _ _ _ | exact impl_turned.mono _ _ | exact LeO.none _ | refine LeO.ite ?_ ?_ | refine LeO.bind ?_ (fun _ => ?_)
theorem impl_Unsurt.mono : ∀ a0 k, LeO (impl_Unsurt.f k a0) (impl_Unsurt.f (k + 1) a0) := by
 intro a0 k
 have ih0 := impl_Unsurt.mono_l k
 unfold impl_Unsurt.f
 repeat' first | (with_reducible first | exact ih0 _ _ _ _ _ _ | exact impl_Surt.mono _ _ _ _ _ _ | exact impl_UrlOk.mono _ _ _ _ _ _ | exact impl_turned.mono _ _ | exact LeO.refl _ | exact LeO.none _ | refine LeO.ite ?_ ?_ | refine LeO.bind ?_ (fun _ => ?_)) | exact ih0 _ _ _ _ _ _ | exact impl_Surt.mono _ _ _ _ _ _ | exact impl_UrlOk.mono _ _ _ _ _ _ | exact impl_turned.mono _ _ | exact LeO.none _ | refine LeO.ite ?_ ?_ | refine LeO.bind ?_ (fun _ => ?_)
set_option maxHeartbeats 8000000 in
set_option maxRecDepth 100000 in
theorem impl_Unsurt.calls (k : Nat) (a0 : ByteArray) (r1 : ByteArray) (r2 : Int) (r3 : ByteArray) (r4 : ByteArray) (r5 : Bool) (r6 : Bool) (w : World) (hG : Gl w) (h : impl_Unsurt.f k a0 = some (r1, r2, r3, r4, r5, r6)) :
  Calls Tryz.prog 13 #[.string a0] w fun e w' => e = .returned (.tuple #[.agg #[.string r1, .int .i64 r2, .string r3, .string r4, .bool r5], .bool r6]) ∧ Below w.heap.size w w' := by
 have hu23 := Tryz.underlying23
 have HG := Aside0.mk hG
 clear hG
 have HB := Aside0.mk (Below.refl w.heap.size w)
 have H : ((strings_Cut.f a0 (⟨#[41]⟩ : ByteArray)).bind fun bt310 => (if bt310.2.2 = true then ((strings_Cut.f bt310.1 (⟨#[58]⟩ : ByteArray)).bind fun bt313 => ((impl_readPath.f bt310.2.1).bind fun bt316 => ((strings_Split.f bt313.1 (⟨#[44]⟩ : ByteArray)).bind fun t322 => ((impl_turned.f k t322).bind fun t325 => ((strings_Join.f t325 (⟨#[46]⟩ : ByteArray)).bind fun t328 => (if bt313.2.2 = true then ((impl_ReadDec.f bt313.2.1).bind fun bt329 => (impl_Unsurt.j0 k a0 t328 bt329.1 bt316.2.2.1 bt316.2.2.2.1 bt316.2.2.2.2)) else (impl_Unsurt.j0 k a0 t328 80 bt316.2.2.1 bt316.2.2.2.1 bt316.2.2.2.2))))))) else (some ((⟨#[]⟩ : ByteArray), 0, (⟨#[]⟩ : ByteArray), (⟨#[]⟩ : ByteArray), false, false)))) = some (r1, r2, r3, r4, r5, r6) := h
 clear h
 replace H := Option.bind_eq_some_iff.mp H
 obtain ⟨⟨t310, t311, t312⟩, A20, H⟩ := H
 try dsimp only at H
 have A2 := Aside0.mk A20
 clear A20
 by_cases c3 : t312 = true
 ·subst c3
  rw [if_pos rfl] at H
  replace H := Option.bind_eq_some_iff.mp H
  obtain ⟨⟨t313, t314, t315⟩, A40, H⟩ := H
  try dsimp only at H
  have A4 := Aside0.mk A40
  clear A40
  replace H := Option.bind_eq_some_iff.mp H
  obtain ⟨⟨t316, t317, t318, t319, t320⟩, A50, H⟩ := H
  try dsimp only at H
  have A5 := Aside0.mk A50
  clear A50
  replace H := Option.bind_eq_some_iff.mp H
  obtain ⟨t322, A60, H⟩ := H
  try dsimp only at H
  have A6 := Aside0.mk A60
  clear A60
  replace H := Option.bind_eq_some_iff.mp H
  obtain ⟨t325, A70, H⟩ := H
  try dsimp only at H
  have A7 := Aside0.mk A70
  clear A70
  replace H := Option.bind_eq_some_iff.mp H
  obtain ⟨t328, A80, H⟩ := H
  try dsimp only at H
  have A8 := Aside0.mk A80
  clear A80
  have HC9 := Aside0.mk H
  clear H
  go_enter Tryz.func13, Tryz.ntmps13
  go_upto_if 34 with (first | ((with_reducible refine gate_dst (N := 2) rfl ?_); refine boxP_ (N := 2) (cs := #[.string (⟨#[]⟩ : ByteArray), .int .i64 0, .string (⟨#[]⟩ : ByteArray), .string (⟨#[]⟩ : ByteArray), .bool false]) (t := 23) ?_; intro gb309 hg w10 hbox hb; have BK309 := Aside0.mk (hbox); have GE309 := geb_ (w := w) hg z0; replace HB := Aside0.mk (below_step z0 hb); clear hb hbox hg) | ((with_reducible refine gate_callee (f := 38) rfl ?_); refine goesQ_ 13 Tryz.func38 #[.string a0, .string (⟨#[41]⟩ : ByteArray)] ?_; (with_reducible refine (strings_Cut.calls a0 (⟨#[41]⟩ : ByteArray) t310 t311 true _ ?side1 A2.out).mono ?_); (case side1 => exact Gl.below HG.out z20); rintro e w11 ⟨rfl, hb⟩; refine ⟨_, rfl, ?_⟩; replace BK309 := Aside0.mk (blk_below (g := gb309) (o := .cells #[.string (⟨#[]⟩ : ByteArray), .int .i64 0, .string (⟨#[]⟩ : ByteArray), .string (⟨#[]⟩ : ByteArray), .bool false] 23 (0, 0)) z23 hb); replace HB := Aside0.mk (below_step z20 hb); (try clear hb)) | ((with_reducible refine gate_callee (f := 38) rfl ?_); refine goesQ_ 22 Tryz.func38 #[.string t310, .string (⟨#[58]⟩ : ByteArray)] ?_; (with_reducible refine (strings_Cut.calls t310 (⟨#[58]⟩ : ByteArray) t313 t314 t315 _ ?side1 A4.out).mono ?_); (case side1 => exact Gl.below HG.out z20); rintro e w12 ⟨rfl, hb⟩; refine ⟨_, rfl, ?_⟩; replace BK309 := Aside0.mk (blk_below (g := gb309) (o := .cells #[.string (⟨#[]⟩ : ByteArray), .int .i64 0, .string (⟨#[]⟩ : ByteArray), .string (⟨#[]⟩ : ByteArray), .bool false] 23 (0, 0)) z23 hb); replace HB := Aside0.mk (below_step z20 hb); (try clear hb)) | ((with_reducible refine gate_callee (f := 39) rfl ?_); refine goesQ_ 27 Tryz.func39 #[.string t311] ?_; (with_reducible refine (impl_readPath.calls t311 t316 t317 t318 t319 t320 _ ?side1 A5.out).mono ?_); (case side1 => exact Gl.below HG.out z20); rintro e w13 ⟨rfl, hb⟩; refine ⟨_, rfl, ?_⟩; replace BK309 := Aside0.mk (blk_below (g := gb309) (o := .cells #[.string (⟨#[]⟩ : ByteArray), .int .i64 0, .string (⟨#[]⟩ : ByteArray), .string (⟨#[]⟩ : ByteArray), .bool false] 23 (0, 0)) z23 hb); replace HB := Aside0.mk (below_step z20 hb); (try clear hb)) | ((with_reducible refine gate_dst (N := 10) rfl ?_); refine boxP_ (N := 10) (cs := #[.string (⟨#[]⟩ : ByteArray), .int .i64 0, .string (⟨#[]⟩ : ByteArray), .string (⟨#[]⟩ : ByteArray), .bool false]) (t := 23) ?_; intro gb321 hg w14 hbox hb; have BK321 := Aside0.mk (hbox); have GE321 := geb_ (w := w) hg z20; replace HB := Aside0.mk (below_step z20 hb); have NB309_321 := Aside0.mk ((by rw [hg]; exact Nat.ne_of_lt (blk_lt (g := gb309) (o := .cells #[.string (⟨#[]⟩ : ByteArray), .int .i64 0, .string (⟨#[]⟩ : ByteArray), .string (⟨#[]⟩ : ByteArray), .bool false] 23 (0, 0)) z23) : gb309 ≠ gb321)); have NB321_309 := Aside0.mk ((by rw [hg]; exact Nat.ne_of_gt (blk_lt (g := gb309) (o := .cells #[.string (⟨#[]⟩ : ByteArray), .int .i64 0, .string (⟨#[]⟩ : ByteArray), .string (⟨#[]⟩ : ByteArray), .bool false] 23 (0, 0)) z23) : gb321 ≠ gb309)); replace BK309 := Aside0.mk (blk_below (g := gb309) (o := .cells #[.string (⟨#[]⟩ : ByteArray), .int .i64 0, .string (⟨#[]⟩ : ByteArray), .string (⟨#[]⟩ : ByteArray), .bool false] 23 (0, 0)) z23 hb); clear hb hbox hg; have hnb15 := NB321_309.out; have hnc15 := NB309_321.out; obtain ⟨hcz16_0, hcz16_1, hcz16_2, hcz16_3, hcz16_4, hfz16_0, hfz16_1, hfz16_2, hfz16_3, hfz16_4⟩ := cells5_ BK321.out) | ((with_reducible refine gate_callee (f := 46) rfl ?_); refine goesQ_ 29 Tryz.func46 #[.string t313, .string (⟨#[44]⟩ : ByteArray)] ?_; (with_reducible refine (strings_Split.calls t313 (⟨#[44]⟩ : ByteArray) t322 _ ?side1 A6.out).mono ?_); (case side1 => exact Gl.below HG.out z8); rintro e w17 ⟨v323, rfl, ho0, hb⟩; refine ⟨_, rfl, ?_⟩; have HO324 := Aside0.mk (Kd.R_lower ho0 (below_size z8)); replace BK309 := Aside0.mk (blk_below (g := gb309) (o := .cells #[.string (⟨#[]⟩ : ByteArray), .int .i64 0, .string (⟨#[]⟩ : ByteArray), .string (⟨#[]⟩ : ByteArray), .bool false] 23 (0, 0)) (by (with_reducible repeat (first | refine blk_drewN ?_ _ | refine blk_drew ?_ | refine blk_alloc ?_ _)); refine blk_far ?_ NB309_321.out _; (with_reducible repeat (first | refine blk_drewN ?_ _ | refine blk_drew ?_ | refine blk_alloc ?_ _)); refine blk_far ?_ NB309_321.out _; (with_reducible repeat (first | refine blk_drewN ?_ _ | refine blk_drew ?_ | refine blk_alloc ?_ _)); refine blk_far ?_ NB309_321.out _; (with_reducible repeat (first | refine blk_drewN ?_ _ | refine blk_drew ?_ | refine blk_alloc ?_ _)); refine blk_far ?_ NB309_321.out _; (with_reducible repeat (first | refine blk_drewN ?_ _ | refine blk_drew ?_ | refine blk_alloc ?_ _)); refine blk_far ?_ NB309_321.out _; (with_reducible repeat (first | refine blk_drewN ?_ _ | refine blk_drew ?_ | refine blk_alloc ?_ _)); exact BK309.out) hb); replace BK321 := Aside0.mk (blk_below (g := gb321) (o := .cells #[.string t316, .int .i64 t317, .string t318, .string t319, .bool t320] 23 (0, 0)) (by (with_reducible repeat (first | refine blk_drewN ?_ _ | refine blk_drew ?_ | refine blk_alloc ?_ _)); refine blk_put (cs := #[.string t316, .int .i64 t317, .string t318, .string t319, .bool false]) ?_ 4 _ rfl; (with_reducible repeat (first | refine blk_drewN ?_ _ | refine blk_drew ?_ | refine blk_alloc ?_ _)); refine blk_put (cs := #[.string t316, .int .i64 t317, .string t318, .string (⟨#[]⟩ : ByteArray), .bool false]) ?_ 3 _ rfl; (with_reducible repeat (first | refine blk_drewN ?_ _ | refine blk_drew ?_ | refine blk_alloc ?_ _)); refine blk_put (cs := #[.string t316, .int .i64 t317, .string (⟨#[]⟩ : ByteArray), .string (⟨#[]⟩ : ByteArray), .bool false]) ?_ 2 _ rfl; (with_reducible repeat (first | refine blk_drewN ?_ _ | refine blk_drew ?_ | refine blk_alloc ?_ _)); refine blk_put (cs := #[.string t316, .int .i64 0, .string (⟨#[]⟩ : ByteArray), .string (⟨#[]⟩ : ByteArray), .bool false]) ?_ 1 _ rfl; (with_reducible repeat (first | refine blk_drewN ?_ _ | refine blk_drew ?_ | refine blk_alloc ?_ _)); refine blk_put (cs := #[.string (⟨#[]⟩ : ByteArray), .int .i64 0, .string (⟨#[]⟩ : ByteArray), .string (⟨#[]⟩ : ByteArray), .bool false]) ?_ 0 _ rfl; (with_reducible repeat (first | refine blk_drewN ?_ _ | refine blk_drew ?_ | refine blk_alloc ?_ _)); exact BK321.out) hb); replace HB := Aside0.mk (below_step z8 hb); (try clear hb); (try clear ho0); obtain ⟨Ao18, co18, eo18⟩ := Kd.R_slice HO324.out; subst eo18) | ((with_reducible refine gate_callee (f := 45) rfl ?_); refine goesQ_ 30 Tryz.func45 #[.slice Ao18 t322.length co18] ?_; (with_reducible refine (impl_turned.calls k _ _ t322 t325 _ ?side1 ?side2 A7.out).mono ?_); (case side1 => repeat (first | exact (Kd.R_reads' HO324.out).2.2 | (with_reducible refine Kd.C_alloc ?_ _) | (with_reducible refine Kd.C_drewN ?_ _) | (with_reducible refine Kd.C_drew ?_))); (case side2 => exact (Kd.R_reads' HO324.out).2.1); rintro e w19 ⟨v326, rfl, ho0, hb⟩; refine ⟨_, rfl, ?_⟩; have HO327 := Aside0.mk (Kd.R_lower (Kd.R_new' ho0 (Kd.R_lt z68)) (below_size z8)); replace HO324 := Aside0.mk (Kd.R_elder' z68 (Kd.R_base ho0) hb); replace BK309 := Aside0.mk (blk_below (g := gb309) (o := .cells #[.string (⟨#[]⟩ : ByteArray), .int .i64 0, .string (⟨#[]⟩ : ByteArray), .string (⟨#[]⟩ : ByteArray), .bool false] 23 (0, 0)) z23 hb); replace BK321 := Aside0.mk (blk_below (g := gb321) (o := .cells #[.string t316, .int .i64 t317, .string t318, .string t319, .bool t320] 23 (0, 0)) z37 hb); replace HB := Aside0.mk (below_step z8 hb); (try clear hb); (try clear ho0); obtain ⟨Ao20, co20, eo20⟩ := Kd.R_slice HO327.out; subst eo20) | ((with_reducible refine gate_callee (f := 44) rfl ?_); refine goesQ_ 31 Tryz.func44 #[.slice Ao20 t325.length co20, .string (⟨#[46]⟩ : ByteArray)] ?_; (with_reducible refine (strings_Join.calls _ _ t325 (⟨#[46]⟩ : ByteArray) t328 _ ?side1 ?side2 A8.out).mono ?_); (case side1 => repeat (first | exact (Kd.R_reads' HO327.out).2.2 | (with_reducible refine Kd.C_alloc ?_ _) | (with_reducible refine Kd.C_drewN ?_ _) | (with_reducible refine Kd.C_drew ?_))); (case side2 => exact (Kd.R_reads' HO327.out).2.1); rintro e w21 ⟨rfl, hb⟩; refine ⟨_, rfl, ?_⟩; replace HO324 := Aside0.mk (Kd.R_below z68 hb); replace HO327 := Aside0.mk (Kd.R_below (by (with_reducible repeat (first | apply Kd.R_alloc | apply Kd.R_drewN | apply Kd.R_drew)); exact HO327.out) hb); replace BK309 := Aside0.mk (blk_below (g := gb309) (o := .cells #[.string (⟨#[]⟩ : ByteArray), .int .i64 0, .string (⟨#[]⟩ : ByteArray), .string (⟨#[]⟩ : ByteArray), .bool false] 23 (0, 0)) z23 hb); replace BK321 := Aside0.mk (blk_below (g := gb321) (o := .cells #[.string t316, .int .i64 t317, .string t318, .string t319, .bool t320] 23 (0, 0)) z37 hb); replace HB := Aside0.mk (below_step z8 hb); (try clear hb); obtain ⟨hcz22_0, hcz22_1, hcz22_2, hcz22_3, hcz22_4, hfz22_0, hfz22_1, hfz22_2, hfz22_3, hfz22_4⟩ := cells5_ BK321.out))
  (try simp only [Act.put, List.setIfInBounds_toArray, List.set_cons_zero, List.set_cons_succ])
  go_cut [] (fun wc => ∃ (kq : Nat) (x322001_8 : Int), Aside0 (impl_Unsurt.j0 kq a0 t328 x322001_8 t318 t319 t320 = some (r1, r2, r3, r4, r5, r6)) ∧ Aside0 (kq ≤ k) ∧ Aside0 (wc.heap[gb309]? = some (.cells #[.string (⟨#[]⟩ : ByteArray), .int .i64 0, .string (⟨#[]⟩ : ByteArray), .string (⟨#[]⟩ : ByteArray), .bool false] 23 (0, 0))) ∧ Aside0 (wc.heap[gb321]? = some (.cells #[.string t328, .int .i64 x322001_8, .string t318, .string t319, .bool t320] 23 (0, 0))) ∧ Aside0 (Below w.heap.size w wc))
  case first =>
   have H := HC9.out
   clear HC9
   by_cases c23 : t315 = true
   ·subst c23
    rw [if_pos rfl] at H
    replace H := Option.bind_eq_some_iff.mp H
    obtain ⟨⟨t329, t330⟩, A240, H⟩ := H
    try dsimp only at H
    have A24 := Aside0.mk A240
    clear A240
    have H' := Aside0.mk H
    clear H
    go_wp2_with (first | ((with_reducible refine gate_callee (f := 40) rfl ?_); refine goesQ_ 37 Tryz.func40 #[.string t314] ?_; (with_reducible refine (impl_ReadDec.calls t314 t329 t330 _ ?side1 A24.out).mono ?_); (case side1 => exact Gl.below HG.out z8); rintro e w25 ⟨rfl, hb⟩; refine ⟨_, rfl, ?_⟩; replace HO324 := Aside0.mk (Kd.R_below (by (with_reducible repeat (first | apply Kd.R_alloc | apply Kd.R_drewN | apply Kd.R_drew)); exact (Kd.R_mono (Kd.R_far (p := ⟨gb321, 1, none⟩) (Kd.R_far (p := ⟨gb321, 0, none⟩) (Kd.R_types HO324.out BK321.out (by decide)) (fun _ hk => hk.2) (.string t328)) (fun _ hk => hk.2) (.int .i64 80)) (fun _ h_ => h_.1))) hb); replace HO327 := Aside0.mk (Kd.R_below (by (with_reducible repeat (first | apply Kd.R_alloc | apply Kd.R_drewN | apply Kd.R_drew)); exact (Kd.R_mono (Kd.R_far (p := ⟨gb321, 1, none⟩) (Kd.R_far (p := ⟨gb321, 0, none⟩) (Kd.R_types HO327.out BK321.out (by decide)) (fun _ hk => hk.2) (.string t328)) (fun _ hk => hk.2) (.int .i64 80)) (fun _ h_ => h_.1))) hb); replace BK309 := Aside0.mk (blk_below (g := gb309) (o := .cells #[.string (⟨#[]⟩ : ByteArray), .int .i64 0, .string (⟨#[]⟩ : ByteArray), .string (⟨#[]⟩ : ByteArray), .bool false] 23 (0, 0)) z52 hb); replace BK321 := Aside0.mk (blk_below (g := gb321) (o := .cells #[.string t328, .int .i64 80, .string t318, .string t319, .bool t320] 23 (0, 0)) z42 hb); replace HB := Aside0.mk (below_step z8 hb); (try clear hb); (try clear hk); have hnb26 := NB321_309.out; have hnc26 := NB309_321.out; obtain ⟨hcz27_0, hcz27_1, hcz27_2, hcz27_3, hcz27_4, hfz27_0, hfz27_1, hfz27_2, hfz27_3, hfz27_4⟩ := cells5_ BK321.out))
    go_meet
    case rel => exact ⟨_, (t329), H', ⟨z28⟩, ⟨by (with_reducible repeat (first | refine blk_drewN ?_ _ | refine blk_drew ?_ | refine blk_alloc ?_ _)); refine blk_far ?_ NB309_321.out _; (with_reducible repeat (first | refine blk_drewN ?_ _ | refine blk_drew ?_ | refine blk_alloc ?_ _)); exact BK309.out⟩, ⟨by (with_reducible repeat (first | refine blk_drewN ?_ _ | refine blk_drew ?_ | refine blk_alloc ?_ _)); refine blk_put (cs := #[.string t328, .int .i64 80, .string t318, .string t319, .bool t320]) ?_ 1 _ rfl; (with_reducible repeat (first | refine blk_drewN ?_ _ | refine blk_drew ?_ | refine blk_alloc ?_ _)); exact BK321.out⟩, ⟨z8⟩⟩
   ·replace c23 := Bool.eq_false_iff.mpr c23
    subst c23
    rw [if_neg Bool.false_ne_true] at H
    have H' := Aside0.mk H
    clear H
    go_wp2
    go_meet
    case rel => exact ⟨_, (80), H', ⟨z28⟩, ⟨z52⟩, ⟨z42⟩, ⟨z8⟩⟩
  case rest =>
   clear HC9
   try clear c1
   try clear c2
   try clear p2
   try clear c3
   try clear c4
   try clear c13
   try clear c15
   try clear c23
   try clear c26
   try clear hcz16_0
   try clear hcz16_1
   try clear hcz16_2
   try clear hcz16_3
   try clear hcz16_4
   try clear hcz22_0
   try clear hcz22_1
   try clear hcz22_2
   try clear hcz22_3
   try clear hcz22_4
   try clear hcz27_0
   try clear hcz27_1
   try clear hcz27_2
   try clear hcz27_3
   try clear hcz27_4
   try clear hfz16_0
   try clear hfz16_1
   try clear hfz16_2
   try clear hfz16_3
   try clear hfz16_4
   try clear hfz22_0
   try clear hfz22_1
   try clear hfz22_2
   try clear hfz22_3
   try clear hfz22_4
   try clear hfz27_0
   try clear hfz27_1
   try clear hfz27_2
   try clear hfz27_3
   try clear hfz27_4
   obtain ⟨kq, x322001_8, HA, HJ8, BK309, BK321, HB⟩ := hcut
   cases kq with
   | zero => exact absurd HA.out (by simp [impl_Unsurt.j0])
   | succ kj8 =>
    have H := HA.out
    clear HA
    simp only [impl_Unsurt.j0] at H
    replace H := Option.bind_eq_some_iff.mp H
    obtain ⟨t331, A280, H⟩ := H
    try dsimp only at H
    have A28 := Aside0.mk A280
    clear A280
    by_cases c29 : t331 = true
    ·subst c29
     rw [if_pos rfl] at H
     replace H := Option.bind_eq_some_iff.mp H
     obtain ⟨t332, A300, H⟩ := H
     try dsimp only at H
     have A30 := Aside0.mk A300
     clear A300
     by_cases c31 : t332.toList = a0.toList
     ·rw [if_pos c31] at H
      have c31b0 : (t332.toList == a0.toList) = true := beq_iff_eq.mpr c31
      have c31b1 : (t332.toList != a0.toList) = false := bne_eq_false_iff_eq.mpr c31
      clear c31
      simp only [Option.some.injEq, Prod.mk.injEq] at H
      obtain ⟨rfl, rfl, rfl, rfl, rfl, rfl⟩ := H
      have hnb32 := NB321_309.out
      have hnc32 := NB309_321.out
      have hcz33_0 : wc.cell? ⟨gb321, 0, none⟩ = some (.string t328) := (blk_cell BK321.out 0).trans rfl
      have hcz33_1 : wc.cell? ⟨gb321, 1, none⟩ = some (.int .i64 x322001_8) := (blk_cell BK321.out 1).trans rfl
      have hcz33_2 : wc.cell? ⟨gb321, 2, none⟩ = some (.string t318) := (blk_cell BK321.out 2).trans rfl
      have hcz33_3 : wc.cell? ⟨gb321, 3, none⟩ = some (.string t319) := (blk_cell BK321.out 3).trans rfl
      have hcz33_4 : wc.cell? ⟨gb321, 4, none⟩ = some (.bool t320) := (blk_cell BK321.out 4).trans rfl
      have hfz33_0 := blk_frozen BK321.out 0
      have hfz33_1 := blk_frozen BK321.out 1
      have hfz33_2 := blk_frozen BK321.out 2
      have hfz33_3 := blk_frozen BK321.out 3
      have hfz33_4 := blk_frozen BK321.out 4
      go_wp2_with (first | ((with_reducible refine gate_callee (f := 41) rfl ?_); refine goesQ_ 42 Tryz.func41 #[.agg #[.string t328, .int .i64 x322001_8, .string t318, .string t319, .bool t320]] ?_; (with_reducible refine (impl_UrlOk.calls kj8 t328 x322001_8 t318 t319 t320 true _ ?side1 A28.out).mono ?_); (case side1 => exact Gl.below HG.out z8); rintro e w34 ⟨rfl, hb⟩; refine ⟨_, rfl, ?_⟩; replace BK309 := Aside0.mk (blk_below (g := gb309) (o := .cells #[.string (⟨#[]⟩ : ByteArray), .int .i64 0, .string (⟨#[]⟩ : ByteArray), .string (⟨#[]⟩ : ByteArray), .bool false] 23 (0, 0)) z23 hb); replace BK321 := Aside0.mk (blk_below (g := gb321) (o := .cells #[.string t328, .int .i64 x322001_8, .string t318, .string t319, .bool t320] 23 (0, 0)) z37 hb); replace HB := Aside0.mk (below_step z8 hb); (try clear hb); obtain ⟨hcz35_0, hcz35_1, hcz35_2, hcz35_3, hcz35_4, hfz35_0, hfz35_1, hfz35_2, hfz35_3, hfz35_4⟩ := cells5_ BK321.out) | (go_at_call 47; (with_reducible refine (impl_Surt.calls kj8 t328 x322001_8 t318 t319 t320 t332 _ ?side1 A30.out).mono ?_); (case side1 => exact Gl.below HG.out z8); rintro e w36 ⟨rfl, hb⟩; have n0_ := Aside0.mk (blk_below (g := gb309) (o := .cells #[.string (⟨#[]⟩ : ByteArray), .int .i64 0, .string (⟨#[]⟩ : ByteArray), .string (⟨#[]⟩ : ByteArray), .bool false] 23 (0, 0)) z23 hb); have n1_ := Aside0.mk (blk_below (g := gb321) (o := .cells #[.string t328, .int .i64 x322001_8, .string t318, .string t319, .bool t320] 23 (0, 0)) z37 hb); have n2_ := Aside0.mk (below_step z8 hb); clear BK309; clear BK321; clear HB; have BK309 := n0_; have BK321 := n1_; have HB := n2_; clear n0_ n1_ n2_; (try clear hb); (try clear hb2); (try clear hk); (try clear hi); have hcz37_0 : w36.cell? ⟨gb321, 0, none⟩ = some (.string t328) := (blk_cell BK321.out 0).trans rfl; have hcz37_1 : w36.cell? ⟨gb321, 1, none⟩ = some (.int .i64 x322001_8) := (blk_cell BK321.out 1).trans rfl; have hcz37_2 : w36.cell? ⟨gb321, 2, none⟩ = some (.string t318) := (blk_cell BK321.out 2).trans rfl; have hcz37_3 : w36.cell? ⟨gb321, 3, none⟩ = some (.string t319) := (blk_cell BK321.out 3).trans rfl; have hcz37_4 : w36.cell? ⟨gb321, 4, none⟩ = some (.bool t320) := (blk_cell BK321.out 4).trans rfl; have hfz37_0 := blk_frozen BK321.out 0; have hfz37_1 := blk_frozen BK321.out 1; have hfz37_2 := blk_frozen BK321.out 2; have hfz37_3 := blk_frozen BK321.out 3; have hfz37_4 := blk_frozen BK321.out 4; have hcz38_0 : w36.cell? ⟨gb309, 0, none⟩ = some (.string (⟨#[]⟩ : ByteArray)) := (blk_cell BK309.out 0).trans rfl; have hcz38_1 : w36.cell? ⟨gb309, 1, none⟩ = some (.int .i64 0) := (blk_cell BK309.out 1).trans rfl; have hcz38_2 : w36.cell? ⟨gb309, 2, none⟩ = some (.string (⟨#[]⟩ : ByteArray)) := (blk_cell BK309.out 2).trans rfl; have hcz38_3 : w36.cell? ⟨gb309, 3, none⟩ = some (.string (⟨#[]⟩ : ByteArray)) := (blk_cell BK309.out 3).trans rfl; have hcz38_4 : w36.cell? ⟨gb309, 4, none⟩ = some (.bool false) := (blk_cell BK309.out 4).trans rfl; have hfz38_0 := blk_frozen BK309.out 0; have hfz38_1 := blk_frozen BK309.out 1; have hfz38_2 := blk_frozen BK309.out 2; have hfz38_3 := blk_frozen BK309.out 3; have hfz38_4 := blk_frozen BK309.out 4))
      refine bodyPost_ret (results_ct rfl _ _ gb309 23 #[.string t328, .int .i64 x322001_8, .string t318, .string t319, .bool t320] (0, 0) _ rfl (by (with_reducible repeat (first | refine blk_drewN ?_ _ | refine blk_drew ?_ | refine blk_alloc ?_ _)); refine blk_put (cs := #[.string t328, .int .i64 x322001_8, .string t318, .string t319, .bool false]) ?_ 4 _ rfl; (with_reducible repeat (first | refine blk_drewN ?_ _ | refine blk_drew ?_ | refine blk_alloc ?_ _)); refine blk_put (cs := #[.string t328, .int .i64 x322001_8, .string t318, .string (⟨#[]⟩ : ByteArray), .bool false]) ?_ 3 _ rfl; (with_reducible repeat (first | refine blk_drewN ?_ _ | refine blk_drew ?_ | refine blk_alloc ?_ _)); refine blk_put (cs := #[.string t328, .int .i64 x322001_8, .string (⟨#[]⟩ : ByteArray), .string (⟨#[]⟩ : ByteArray), .bool false]) ?_ 2 _ rfl; (with_reducible repeat (first | refine blk_drewN ?_ _ | refine blk_drew ?_ | refine blk_alloc ?_ _)); refine blk_put (cs := #[.string t328, .int .i64 0, .string (⟨#[]⟩ : ByteArray), .string (⟨#[]⟩ : ByteArray), .bool false]) ?_ 1 _ rfl; (with_reducible repeat (first | refine blk_drewN ?_ _ | refine blk_drew ?_ | refine blk_alloc ?_ _)); refine blk_put (cs := #[.string (⟨#[]⟩ : ByteArray), .int .i64 0, .string (⟨#[]⟩ : ByteArray), .string (⟨#[]⟩ : ByteArray), .bool false]) ?_ 0 _ rfl; (with_reducible repeat (first | refine blk_drewN ?_ _ | refine blk_drew ?_ | refine blk_alloc ?_ _)); exact BK309.out) Tryz.underlying23 rfl (by kernel_rfl)) rfl ?_
      exact ⟨z4, z8⟩
     ·rw [if_neg c31] at H
      have c31b0 : (t332.toList == a0.toList) = false := beq_eq_false_iff_ne.mpr c31
      have c31b1 : (t332.toList != a0.toList) = true := bne_iff_ne.mpr c31
      simp only [Option.some.injEq, Prod.mk.injEq] at H
      obtain ⟨rfl, rfl, rfl, rfl, rfl, rfl⟩ := H
      have hnb39 := NB321_309.out
      have hnc39 := NB309_321.out
      have hcz40_0 : wc.cell? ⟨gb321, 0, none⟩ = some (.string t328) := (blk_cell BK321.out 0).trans rfl
      have hcz40_1 : wc.cell? ⟨gb321, 1, none⟩ = some (.int .i64 x322001_8) := (blk_cell BK321.out 1).trans rfl
      have hcz40_2 : wc.cell? ⟨gb321, 2, none⟩ = some (.string t318) := (blk_cell BK321.out 2).trans rfl
      have hcz40_3 : wc.cell? ⟨gb321, 3, none⟩ = some (.string t319) := (blk_cell BK321.out 3).trans rfl
      have hcz40_4 : wc.cell? ⟨gb321, 4, none⟩ = some (.bool t320) := (blk_cell BK321.out 4).trans rfl
      have hfz40_0 := blk_frozen BK321.out 0
      have hfz40_1 := blk_frozen BK321.out 1
      have hfz40_2 := blk_frozen BK321.out 2
      have hfz40_3 := blk_frozen BK321.out 3
      have hfz40_4 := blk_frozen BK321.out 4
      go_wp2_with (first | ((with_reducible refine gate_callee (f := 41) rfl ?_); refine goesQ_ 42 Tryz.func41 #[.agg #[.string t328, .int .i64 x322001_8, .string t318, .string t319, .bool t320]] ?_; (with_reducible refine (impl_UrlOk.calls kj8 t328 x322001_8 t318 t319 t320 true _ ?side1 A28.out).mono ?_); (case side1 => exact Gl.below HG.out z8); rintro e w41 ⟨rfl, hb⟩; refine ⟨_, rfl, ?_⟩; replace BK309 := Aside0.mk (blk_below (g := gb309) (o := .cells #[.string (⟨#[]⟩ : ByteArray), .int .i64 0, .string (⟨#[]⟩ : ByteArray), .string (⟨#[]⟩ : ByteArray), .bool false] 23 (0, 0)) z23 hb); replace BK321 := Aside0.mk (blk_below (g := gb321) (o := .cells #[.string t328, .int .i64 x322001_8, .string t318, .string t319, .bool t320] 23 (0, 0)) z37 hb); replace HB := Aside0.mk (below_step z8 hb); (try clear hb); obtain ⟨hcz42_0, hcz42_1, hcz42_2, hcz42_3, hcz42_4, hfz42_0, hfz42_1, hfz42_2, hfz42_3, hfz42_4⟩ := cells5_ BK321.out) | (go_at_call 47; (with_reducible refine (impl_Surt.calls kj8 t328 x322001_8 t318 t319 t320 t332 _ ?side1 A30.out).mono ?_); (case side1 => exact Gl.below HG.out z8); rintro e w43 ⟨rfl, hb⟩; have n0_ := Aside0.mk (blk_below (g := gb309) (o := .cells #[.string (⟨#[]⟩ : ByteArray), .int .i64 0, .string (⟨#[]⟩ : ByteArray), .string (⟨#[]⟩ : ByteArray), .bool false] 23 (0, 0)) z23 hb); have n1_ := Aside0.mk (blk_below (g := gb321) (o := .cells #[.string t328, .int .i64 x322001_8, .string t318, .string t319, .bool t320] 23 (0, 0)) z37 hb); have n2_ := Aside0.mk (below_step z8 hb); clear BK309; clear BK321; clear HB; have BK309 := n0_; have BK321 := n1_; have HB := n2_; clear n0_ n1_ n2_; (try clear hb); (try clear hb2); (try clear hk); (try clear hi); have hcz44_0 : w43.cell? ⟨gb309, 0, none⟩ = some (.string (⟨#[]⟩ : ByteArray)) := (blk_cell BK309.out 0).trans rfl; have hcz44_1 : w43.cell? ⟨gb309, 1, none⟩ = some (.int .i64 0) := (blk_cell BK309.out 1).trans rfl; have hcz44_2 : w43.cell? ⟨gb309, 2, none⟩ = some (.string (⟨#[]⟩ : ByteArray)) := (blk_cell BK309.out 2).trans rfl; have hcz44_3 : w43.cell? ⟨gb309, 3, none⟩ = some (.string (⟨#[]⟩ : ByteArray)) := (blk_cell BK309.out 3).trans rfl; have hcz44_4 : w43.cell? ⟨gb309, 4, none⟩ = some (.bool false) := (blk_cell BK309.out 4).trans rfl; have hfz44_0 := blk_frozen BK309.out 0; have hfz44_1 := blk_frozen BK309.out 1; have hfz44_2 := blk_frozen BK309.out 2; have hfz44_3 := blk_frozen BK309.out 3; have hfz44_4 := blk_frozen BK309.out 4))
      refine bodyPost_ret (results_ct rfl _ _ gb309 23 #[.string (⟨#[]⟩ : ByteArray), .int .i64 0, .string (⟨#[]⟩ : ByteArray), .string (⟨#[]⟩ : ByteArray), .bool false] (0, 0) _ rfl z10 Tryz.underlying23 rfl (by kernel_rfl)) rfl ?_
      exact ⟨z4, z8⟩
    ·replace c29 := Bool.eq_false_iff.mpr c29
     subst c29
     rw [if_neg Bool.false_ne_true] at H
     simp only [Option.some.injEq, Prod.mk.injEq] at H
     obtain ⟨rfl, rfl, rfl, rfl, rfl, rfl⟩ := H
     have hnb45 := NB321_309.out
     have hnc45 := NB309_321.out
     have hcz46_0 : wc.cell? ⟨gb321, 0, none⟩ = some (.string t328) := (blk_cell BK321.out 0).trans rfl
     have hcz46_1 : wc.cell? ⟨gb321, 1, none⟩ = some (.int .i64 x322001_8) := (blk_cell BK321.out 1).trans rfl
     have hcz46_2 : wc.cell? ⟨gb321, 2, none⟩ = some (.string t318) := (blk_cell BK321.out 2).trans rfl
     have hcz46_3 : wc.cell? ⟨gb321, 3, none⟩ = some (.string t319) := (blk_cell BK321.out 3).trans rfl
     have hcz46_4 : wc.cell? ⟨gb321, 4, none⟩ = some (.bool t320) := (blk_cell BK321.out 4).trans rfl
     have hfz46_0 := blk_frozen BK321.out 0
     have hfz46_1 := blk_frozen BK321.out 1
     have hfz46_2 := blk_frozen BK321.out 2
     have hfz46_3 := blk_frozen BK321.out 3
     have hfz46_4 := blk_frozen BK321.out 4
     go_wp2_with (first | ((with_reducible refine gate_callee (f := 41) rfl ?_); refine goesQ_ 42 Tryz.func41 #[.agg #[.string t328, .int .i64 x322001_8, .string t318, .string t319, .bool t320]] ?_; (with_reducible refine (impl_UrlOk.calls kj8 t328 x322001_8 t318 t319 t320 false _ ?side1 A28.out).mono ?_); (case side1 => exact Gl.below HG.out z8); rintro e w47 ⟨rfl, hb⟩; refine ⟨_, rfl, ?_⟩; replace BK309 := Aside0.mk (blk_below (g := gb309) (o := .cells #[.string (⟨#[]⟩ : ByteArray), .int .i64 0, .string (⟨#[]⟩ : ByteArray), .string (⟨#[]⟩ : ByteArray), .bool false] 23 (0, 0)) z23 hb); replace BK321 := Aside0.mk (blk_below (g := gb321) (o := .cells #[.string t328, .int .i64 x322001_8, .string t318, .string t319, .bool t320] 23 (0, 0)) z37 hb); replace HB := Aside0.mk (below_step z8 hb); (try clear hb); obtain ⟨hcz48_0, hcz48_1, hcz48_2, hcz48_3, hcz48_4, hfz48_0, hfz48_1, hfz48_2, hfz48_3, hfz48_4⟩ := cells5_ BK309.out))
     refine bodyPost_ret (results_ct rfl _ _ gb309 23 #[.string (⟨#[]⟩ : ByteArray), .int .i64 0, .string (⟨#[]⟩ : ByteArray), .string (⟨#[]⟩ : ByteArray), .bool false] (0, 0) _ rfl z10 Tryz.underlying23 rfl (by kernel_rfl)) rfl ?_
     exact ⟨z4, z8⟩
 ·replace c3 := Bool.eq_false_iff.mpr c3
  subst c3
  rw [if_neg Bool.false_ne_true] at H
  simp only [Option.some.injEq, Prod.mk.injEq] at H
  obtain ⟨rfl, rfl, rfl, rfl, rfl, rfl⟩ := H
  go_enter Tryz.func13, Tryz.ntmps13
  go_wp2_with (first | ((with_reducible refine gate_dst (N := 2) rfl ?_); refine boxP_ (N := 2) (cs := #[.string (⟨#[]⟩ : ByteArray), .int .i64 0, .string (⟨#[]⟩ : ByteArray), .string (⟨#[]⟩ : ByteArray), .bool false]) (t := 23) ?_; intro gb309 hg w49 hbox hb; have BK309 := Aside0.mk (hbox); have GE309 := geb_ (w := w) hg z0; replace HB := Aside0.mk (below_step z0 hb); clear hb hbox hg) | ((with_reducible refine gate_callee (f := 38) rfl ?_); refine goesQ_ 13 Tryz.func38 #[.string a0, .string (⟨#[41]⟩ : ByteArray)] ?_; (with_reducible refine (strings_Cut.calls a0 (⟨#[41]⟩ : ByteArray) t310 t311 false _ ?side1 A2.out).mono ?_); (case side1 => exact Gl.below HG.out z20); rintro e w50 ⟨rfl, hb⟩; refine ⟨_, rfl, ?_⟩; replace BK309 := Aside0.mk (blk_below (g := gb309) (o := .cells #[.string (⟨#[]⟩ : ByteArray), .int .i64 0, .string (⟨#[]⟩ : ByteArray), .string (⟨#[]⟩ : ByteArray), .bool false] 23 (0, 0)) z23 hb); replace HB := Aside0.mk (below_step z20 hb); (try clear hb); obtain ⟨hcz51_0, hcz51_1, hcz51_2, hcz51_3, hcz51_4, hfz51_0, hfz51_1, hfz51_2, hfz51_3, hfz51_4⟩ := cells5_ BK309.out))
  refine bodyPost_ret (results_ct rfl _ _ gb309 23 #[.string (⟨#[]⟩ : ByteArray), .int .i64 0, .string (⟨#[]⟩ : ByteArray), .string (⟨#[]⟩ : ByteArray), .bool false] (0, 0) _ rfl z10 Tryz.underlying23 rfl (by kernel_rfl)) rfl ?_
  exact ⟨z4, z20⟩

/-! ### laws_FnExactUnsurt: function 4 -/
def laws_FnExactUnsurt.f (k : Nat) (a0 : ByteArray) : Option (Bool) := if (a0.size : Int) > 1048576 then (some true) else ((spec_Unsurt.f k a0).bind fun bt333 => ((impl_Unsurt.f k a0).bind fun bt340 => ((laws_eqUrl.f bt340.1 bt340.2.1 bt340.2.2.1 bt340.2.2.2.1 bt340.2.2.2.2.1 bt333.1 bt333.2.1 bt333.2.2.1 bt333.2.2.2.1 bt333.2.2.2.2.1).bind fun t347 => (if t347 = true then (if (bt340.2.2.2.2.2 != bt333.2.2.2.2.2) = true then (some false) else (some true)) else (some false)))))
theorem laws_FnExactUnsurt.mono : ∀ a0 k, LeO (laws_FnExactUnsurt.f k a0) (laws_FnExactUnsurt.f (k + 1) a0) := by
 intro a0 k
 unfold laws_FnExactUnsurt.f
 repeat' first | (with_reducible first | exact impl_Unsurt.mono _ _ | exact spec_Unsurt.mono _ _ | exact LeO.refl _ | exact LeO.none _ | refine LeO.ite ?_ ?_ | refine LeO.bind ?_ (fun _ => ?_)) | exact impl_Unsurt.mono _ _ | exact spec_Unsurt.mono _ _ | exact LeO.none _ | refine LeO.ite ?_ ?_ | refine LeO.bind ?_ (fun _ => ?_)
set_option maxHeartbeats 8000000 in
set_option maxRecDepth 100000 in
theorem laws_FnExactUnsurt.calls (k : Nat) (a0 : ByteArray) (r : Bool) (w : World) (hG : Gl w) (h : laws_FnExactUnsurt.f k a0 = some r) :
  Calls Tryz.prog 4 #[.string a0] w fun e w' => e = .returned (.bool r) ∧ Below w.heap.size w w' := by
 have hu23 := Tryz.underlying23
 have HG := Aside0.mk hG
 clear hG
 have HB := Aside0.mk (Below.refl w.heap.size w)
 have H : (if (a0.size : Int) > 1048576 then (some true) else ((spec_Unsurt.f k a0).bind fun bt333 => ((impl_Unsurt.f k a0).bind fun bt340 => ((laws_eqUrl.f bt340.1 bt340.2.1 bt340.2.2.1 bt340.2.2.2.1 bt340.2.2.2.2.1 bt333.1 bt333.2.1 bt333.2.2.1 bt333.2.2.2.1 bt333.2.2.2.2.1).bind fun t347 => (if t347 = true then (if (bt340.2.2.2.2.2 != bt333.2.2.2.2.2) = true then (some false) else (some true)) else (some false)))))) = some r := h
 clear h
 by_cases c2 : (a0.size : Int) > 1048576
 ·rw [if_pos c2] at H
  have c2b0 : decide (1048576 < (a0.size : Int)) = true := decide_eq_true c2
  have c2b1 : decide (1048576 < a0.size) = true := decide_eq_true (by omega)
  clear c2
  obtain rfl := Option.some.inj H
  go_enter Tryz.func4, Tryz.ntmps4
  go_wp2
  go_ret
  exact ⟨z4, z0⟩
 ·rw [if_neg c2] at H
  have c2b0 : decide (1048576 < (a0.size : Int)) = false := decide_eq_false c2
  have c2b1 : decide (1048576 < a0.size) = false := decide_eq_false (by omega)
  clear c2
  replace H := Option.bind_eq_some_iff.mp H
  obtain ⟨⟨t333, t334, t335, t336, t337, t338⟩, A30, H⟩ := H
  try dsimp only at H
  have A3 := Aside0.mk A30
  clear A30
  replace H := Option.bind_eq_some_iff.mp H
  obtain ⟨⟨t340, t341, t342, t343, t344, t345⟩, A40, H⟩ := H
  try dsimp only at H
  have A4 := Aside0.mk A40
  clear A40
  replace H := Option.bind_eq_some_iff.mp H
  obtain ⟨t347, A50, H⟩ := H
  try dsimp only at H
  have A5 := Aside0.mk A50
  clear A50
  by_cases c6 : t347 = true
  ·subst c6
   rw [if_pos rfl] at H
   by_cases c7 : (t345 != t338) = true
   ·rw [if_pos c7] at H
    have c7b0 : (t345 != t338) = true := c7
    (try (have c7b1 : decide (t345 = t338) = false := by simpa using c7))
    (try (have c7b2 : (t345 == t338) = false := by simpa using c7))
    (try (have c7b3 : ¬ (t345 = t338) := by simpa using c7))
    clear c7
    obtain rfl := Option.some.inj H
    go_enter Tryz.func4, Tryz.ntmps4
    go_wp2_with (first | ((with_reducible refine gate_callee (f := 12) rfl ?_); refine goesQ_ 12 Tryz.func12 #[.string a0] ?_; (with_reducible refine (spec_Unsurt.calls k a0 t333 t334 t335 t336 t337 t338 _ A3.out).mono ?_); rintro e w8 ⟨rfl, hb⟩; refine ⟨_, rfl, ?_⟩; replace HB := Aside0.mk (below_step z0 hb); (try clear hb)) | ((with_reducible refine gate_dst (N := 3) rfl ?_); refine boxP_ (N := 3) (cs := #[.string (⟨#[]⟩ : ByteArray), .int .i64 0, .string (⟨#[]⟩ : ByteArray), .string (⟨#[]⟩ : ByteArray), .bool false]) (t := 23) ?_; intro gb339 hg w9 hbox hb; have BK339 := Aside0.mk (hbox); have GE339 := geb_ (w := w) hg z0; replace HB := Aside0.mk (below_step z0 hb); clear hb hbox hg; obtain ⟨hcz10_0, hcz10_1, hcz10_2, hcz10_3, hcz10_4, hfz10_0, hfz10_1, hfz10_2, hfz10_3, hfz10_4⟩ := cells5_ BK339.out) | ((with_reducible refine gate_callee (f := 13) rfl ?_); refine goesQ_ 17 Tryz.func13 #[.string a0] ?_; (with_reducible refine (impl_Unsurt.calls k a0 t340 t341 t342 t343 t344 t345 _ ?side1 A4.out).mono ?_); (case side1 => exact Gl.below HG.out z18); rintro e w11 ⟨rfl, hb⟩; refine ⟨_, rfl, ?_⟩; replace BK339 := Aside0.mk (blk_below (g := gb339) (o := .cells #[.string t333, .int .i64 t334, .string t335, .string t336, .bool t337] 23 (0, 0)) z14 hb); replace HB := Aside0.mk (below_step z18 hb); (try clear hb)) | ((with_reducible refine gate_dst (N := 5) rfl ?_); refine boxP_ (N := 5) (cs := #[.string (⟨#[]⟩ : ByteArray), .int .i64 0, .string (⟨#[]⟩ : ByteArray), .string (⟨#[]⟩ : ByteArray), .bool false]) (t := 23) ?_; intro gb346 hg w12 hbox hb; have BK346 := Aside0.mk (hbox); have GE346 := geb_ (w := w) hg z18; replace HB := Aside0.mk (below_step z18 hb); have NB339_346 := Aside0.mk ((by rw [hg]; exact Nat.ne_of_lt (blk_lt (g := gb339) (o := .cells #[.string t333, .int .i64 t334, .string t335, .string t336, .bool t337] 23 (0, 0)) z32) : gb339 ≠ gb346)); have NB346_339 := Aside0.mk ((by rw [hg]; exact Nat.ne_of_gt (blk_lt (g := gb339) (o := .cells #[.string t333, .int .i64 t334, .string t335, .string t336, .bool t337] 23 (0, 0)) z32) : gb346 ≠ gb339)); replace BK339 := Aside0.mk (blk_below (g := gb339) (o := .cells #[.string t333, .int .i64 t334, .string t335, .string t336, .bool t337] 23 (0, 0)) z32 hb); clear hb hbox hg; have hnb13 := NB346_339.out; have hnc13 := NB339_346.out; obtain ⟨hcz14_0, hcz14_1, hcz14_2, hcz14_3, hcz14_4, hfz14_0, hfz14_1, hfz14_2, hfz14_3, hfz14_4⟩ := cells5_ BK346.out; obtain ⟨hcz15_0, hcz15_1, hcz15_2, hcz15_3, hcz15_4, hfz15_0, hfz15_1, hfz15_2, hfz15_3, hfz15_4⟩ := cells5_ BK339.out) | ((with_reducible refine gate_callee (f := 11) rfl ?_); refine goesQ_ 22 Tryz.func11 #[.agg #[.string t340, .int .i64 t341, .string t342, .string t343, .bool t344], .agg #[.string t333, .int .i64 t334, .string t335, .string t336, .bool t337]] ?_; (with_reducible refine (laws_eqUrl.calls t340 t341 t342 t343 t344 t333 t334 t335 t336 t337 true _ A5.out).mono ?_); rintro e w16 ⟨rfl, hb⟩; refine ⟨_, rfl, ?_⟩; replace BK339 := Aside0.mk (blk_below (g := gb339) (o := .cells #[.string t333, .int .i64 t334, .string t335, .string t336, .bool t337] 23 (0, 0)) z22 hb); replace BK346 := Aside0.mk (blk_below (g := gb346) (o := .cells #[.string t340, .int .i64 t341, .string t342, .string t343, .bool t344] 23 (0, 0)) z13 hb); replace HB := Aside0.mk (below_step z30 hb); (try clear hb)))
    go_ret
    exact ⟨z4, z30⟩
   ·rw [if_neg c7] at H
    have c7b0 : (t345 != t338) = false := by simpa using c7
    (try (have c7b1 : decide (t345 = t338) = true := by simpa using c7))
    (try (have c7b2 : (t345 == t338) = true := by simpa using c7))
    clear c7
    obtain rfl := Option.some.inj H
    go_enter Tryz.func4, Tryz.ntmps4
    go_wp2_with (first | ((with_reducible refine gate_callee (f := 12) rfl ?_); refine goesQ_ 12 Tryz.func12 #[.string a0] ?_; (with_reducible refine (spec_Unsurt.calls k a0 t333 t334 t335 t336 t337 t338 _ A3.out).mono ?_); rintro e w17 ⟨rfl, hb⟩; refine ⟨_, rfl, ?_⟩; replace HB := Aside0.mk (below_step z0 hb); (try clear hb)) | ((with_reducible refine gate_dst (N := 3) rfl ?_); refine boxP_ (N := 3) (cs := #[.string (⟨#[]⟩ : ByteArray), .int .i64 0, .string (⟨#[]⟩ : ByteArray), .string (⟨#[]⟩ : ByteArray), .bool false]) (t := 23) ?_; intro gb339 hg w18 hbox hb; have BK339 := Aside0.mk (hbox); have GE339 := geb_ (w := w) hg z0; replace HB := Aside0.mk (below_step z0 hb); clear hb hbox hg; obtain ⟨hcz19_0, hcz19_1, hcz19_2, hcz19_3, hcz19_4, hfz19_0, hfz19_1, hfz19_2, hfz19_3, hfz19_4⟩ := cells5_ BK339.out) | ((with_reducible refine gate_callee (f := 13) rfl ?_); refine goesQ_ 17 Tryz.func13 #[.string a0] ?_; (with_reducible refine (impl_Unsurt.calls k a0 t340 t341 t342 t343 t344 t345 _ ?side1 A4.out).mono ?_); (case side1 => exact Gl.below HG.out z18); rintro e w20 ⟨rfl, hb⟩; refine ⟨_, rfl, ?_⟩; replace BK339 := Aside0.mk (blk_below (g := gb339) (o := .cells #[.string t333, .int .i64 t334, .string t335, .string t336, .bool t337] 23 (0, 0)) z14 hb); replace HB := Aside0.mk (below_step z18 hb); (try clear hb)) | ((with_reducible refine gate_dst (N := 5) rfl ?_); refine boxP_ (N := 5) (cs := #[.string (⟨#[]⟩ : ByteArray), .int .i64 0, .string (⟨#[]⟩ : ByteArray), .string (⟨#[]⟩ : ByteArray), .bool false]) (t := 23) ?_; intro gb346 hg w21 hbox hb; have BK346 := Aside0.mk (hbox); have GE346 := geb_ (w := w) hg z18; replace HB := Aside0.mk (below_step z18 hb); have NB339_346 := Aside0.mk ((by rw [hg]; exact Nat.ne_of_lt (blk_lt (g := gb339) (o := .cells #[.string t333, .int .i64 t334, .string t335, .string t336, .bool t337] 23 (0, 0)) z32) : gb339 ≠ gb346)); have NB346_339 := Aside0.mk ((by rw [hg]; exact Nat.ne_of_gt (blk_lt (g := gb339) (o := .cells #[.string t333, .int .i64 t334, .string t335, .string t336, .bool t337] 23 (0, 0)) z32) : gb346 ≠ gb339)); replace BK339 := Aside0.mk (blk_below (g := gb339) (o := .cells #[.string t333, .int .i64 t334, .string t335, .string t336, .bool t337] 23 (0, 0)) z32 hb); clear hb hbox hg; have hnb22 := NB346_339.out; have hnc22 := NB339_346.out; obtain ⟨hcz23_0, hcz23_1, hcz23_2, hcz23_3, hcz23_4, hfz23_0, hfz23_1, hfz23_2, hfz23_3, hfz23_4⟩ := cells5_ BK346.out; obtain ⟨hcz24_0, hcz24_1, hcz24_2, hcz24_3, hcz24_4, hfz24_0, hfz24_1, hfz24_2, hfz24_3, hfz24_4⟩ := cells5_ BK339.out) | ((with_reducible refine gate_callee (f := 11) rfl ?_); refine goesQ_ 22 Tryz.func11 #[.agg #[.string t340, .int .i64 t341, .string t342, .string t343, .bool t344], .agg #[.string t333, .int .i64 t334, .string t335, .string t336, .bool t337]] ?_; (with_reducible refine (laws_eqUrl.calls t340 t341 t342 t343 t344 t333 t334 t335 t336 t337 true _ A5.out).mono ?_); rintro e w25 ⟨rfl, hb⟩; refine ⟨_, rfl, ?_⟩; replace BK339 := Aside0.mk (blk_below (g := gb339) (o := .cells #[.string t333, .int .i64 t334, .string t335, .string t336, .bool t337] 23 (0, 0)) z22 hb); replace BK346 := Aside0.mk (blk_below (g := gb346) (o := .cells #[.string t340, .int .i64 t341, .string t342, .string t343, .bool t344] 23 (0, 0)) z13 hb); replace HB := Aside0.mk (below_step z30 hb); (try clear hb)))
    go_ret
    exact ⟨z4, z30⟩
  ·replace c6 := Bool.eq_false_iff.mpr c6
   subst c6
   rw [if_neg Bool.false_ne_true] at H
   obtain rfl := Option.some.inj H
   go_enter Tryz.func4, Tryz.ntmps4
   go_wp2_with (first | ((with_reducible refine gate_callee (f := 12) rfl ?_); refine goesQ_ 12 Tryz.func12 #[.string a0] ?_; (with_reducible refine (spec_Unsurt.calls k a0 t333 t334 t335 t336 t337 t338 _ A3.out).mono ?_); rintro e w26 ⟨rfl, hb⟩; refine ⟨_, rfl, ?_⟩; replace HB := Aside0.mk (below_step z0 hb); (try clear hb)) | ((with_reducible refine gate_dst (N := 3) rfl ?_); refine boxP_ (N := 3) (cs := #[.string (⟨#[]⟩ : ByteArray), .int .i64 0, .string (⟨#[]⟩ : ByteArray), .string (⟨#[]⟩ : ByteArray), .bool false]) (t := 23) ?_; intro gb339 hg w27 hbox hb; have BK339 := Aside0.mk (hbox); have GE339 := geb_ (w := w) hg z0; replace HB := Aside0.mk (below_step z0 hb); clear hb hbox hg; obtain ⟨hcz28_0, hcz28_1, hcz28_2, hcz28_3, hcz28_4, hfz28_0, hfz28_1, hfz28_2, hfz28_3, hfz28_4⟩ := cells5_ BK339.out) | ((with_reducible refine gate_callee (f := 13) rfl ?_); refine goesQ_ 17 Tryz.func13 #[.string a0] ?_; (with_reducible refine (impl_Unsurt.calls k a0 t340 t341 t342 t343 t344 t345 _ ?side1 A4.out).mono ?_); (case side1 => exact Gl.below HG.out z18); rintro e w29 ⟨rfl, hb⟩; refine ⟨_, rfl, ?_⟩; replace BK339 := Aside0.mk (blk_below (g := gb339) (o := .cells #[.string t333, .int .i64 t334, .string t335, .string t336, .bool t337] 23 (0, 0)) z14 hb); replace HB := Aside0.mk (below_step z18 hb); (try clear hb)) | ((with_reducible refine gate_dst (N := 5) rfl ?_); refine boxP_ (N := 5) (cs := #[.string (⟨#[]⟩ : ByteArray), .int .i64 0, .string (⟨#[]⟩ : ByteArray), .string (⟨#[]⟩ : ByteArray), .bool false]) (t := 23) ?_; intro gb346 hg w30 hbox hb; have BK346 := Aside0.mk (hbox); have GE346 := geb_ (w := w) hg z18; replace HB := Aside0.mk (below_step z18 hb); have NB339_346 := Aside0.mk ((by rw [hg]; exact Nat.ne_of_lt (blk_lt (g := gb339) (o := .cells #[.string t333, .int .i64 t334, .string t335, .string t336, .bool t337] 23 (0, 0)) z32) : gb339 ≠ gb346)); have NB346_339 := Aside0.mk ((by rw [hg]; exact Nat.ne_of_gt (blk_lt (g := gb339) (o := .cells #[.string t333, .int .i64 t334, .string t335, .string t336, .bool t337] 23 (0, 0)) z32) : gb346 ≠ gb339)); replace BK339 := Aside0.mk (blk_below (g := gb339) (o := .cells #[.string t333, .int .i64 t334, .string t335, .string t336, .bool t337] 23 (0, 0)) z32 hb); clear hb hbox hg; have hnb31 := NB346_339.out; have hnc31 := NB339_346.out; obtain ⟨hcz32_0, hcz32_1, hcz32_2, hcz32_3, hcz32_4, hfz32_0, hfz32_1, hfz32_2, hfz32_3, hfz32_4⟩ := cells5_ BK346.out; obtain ⟨hcz33_0, hcz33_1, hcz33_2, hcz33_3, hcz33_4, hfz33_0, hfz33_1, hfz33_2, hfz33_3, hfz33_4⟩ := cells5_ BK339.out) | ((with_reducible refine gate_callee (f := 11) rfl ?_); refine goesQ_ 22 Tryz.func11 #[.agg #[.string t340, .int .i64 t341, .string t342, .string t343, .bool t344], .agg #[.string t333, .int .i64 t334, .string t335, .string t336, .bool t337]] ?_; (with_reducible refine (laws_eqUrl.calls t340 t341 t342 t343 t344 t333 t334 t335 t336 t337 false _ A5.out).mono ?_); rintro e w34 ⟨rfl, hb⟩; refine ⟨_, rfl, ?_⟩; replace BK339 := Aside0.mk (blk_below (g := gb339) (o := .cells #[.string t333, .int .i64 t334, .string t335, .string t336, .bool t337] 23 (0, 0)) z22 hb); replace BK346 := Aside0.mk (blk_below (g := gb346) (o := .cells #[.string t340, .int .i64 t341, .string t342, .string t343, .bool t344] 23 (0, 0)) z13 hb); replace HB := Aside0.mk (below_step z30 hb); (try clear hb)))
   go_ret
   exact ⟨z4, z30⟩

/-- THE ONE PURE STATEMENT of laws_FnExactUnsurt. -/
def laws_FnExactUnsurt.Pure : Prop := ∀ (a0 : ByteArray), (a0.size ≤ 9223372036854775807) → ∃ k, laws_FnExactUnsurt.f k a0 = some true
theorem laws_FnExactUnsurt.walk (P : laws_FnExactUnsurt.Pure) (a0 : ByteArray) (w : World) (hG : Gl w) (ok_0 : a0.size ≤ 9223372036854775807) :
  Calls Tryz.prog 4 #[.string a0] w fun e w' => e = .returned (.bool true) ∧ Below w.heap.size w w' := by
 obtain ⟨k, h⟩ := P a0 ok_0
 refine (laws_FnExactUnsurt.calls k a0 true w hG h).mono ?_
 rintro e w' ⟨rfl, hd⟩
 exact ⟨rfl, hd⟩

end Go.Proofs.YtcplgnikihjilaaGreatDoor.GFnExactUnsurt
