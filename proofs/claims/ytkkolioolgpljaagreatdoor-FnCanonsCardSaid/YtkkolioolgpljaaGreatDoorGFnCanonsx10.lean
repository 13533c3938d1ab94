-- Laid by gen.py of this session (over the kit's printing program): what the law FnCanons reaches, as Lean functions, and that Go comes to just that.
import Derived.Test.YtkkolioolgpljaaGreatDoorGFnCanonsx0
import Derived.Test.YtkkolioolgpljaaGreatDoorGFnCanonsx2
import Derived.Test.YtkkolioolgpljaaGreatDoorGFnCanonsx5
import Derived.Test.YtkkolioolgpljaaGreatDoorGFnCanonsx7
import Derived.Test.YtkkolioolgpljaaGreatDoorGFnCanonsx8
import Derived.Test.YtkkolioolgpljaaGreatDoorGFnCanonsx9
import Derived.Test.YtkkolioolgpljaaGreatDoorZFnCanons
namespace Go.Proofs.YtkkolioolgpljaaGreatDoor.GFnCanons
open Go.RowKit Go.Proofs.YtkkolioolgpljaaGreatDoorW.PrintWords Go.Proofs.YtkkolioolgpljaaGreatDoorW.PrintLast Go.Proofs.YtkkolioolgpljaaGreatDoorW.PrintMore Go.Proofs.YtkkolioolgpljaaGreatDoorW.Zs
attribute [local go_sem] max2_int min2_int max_two min_two max_three min_three max_four min_four   -- for this text's walks alone
set_option linter.unusedVariables false
set_option linter.unusedSimpArgs false

/-! ### impl_ReadUrl: function 10 -/
mutual
def impl_ReadUrl.j0 : Nat → ByteArray → Bool → Option (ByteArray × Int × ByteArray × ByteArray × Bool × Bool)
 | 0, _, _ => none
 | k + 1, x0, x34 => if x34 = true then (some ((⟨#[]⟩ : ByteArray), 0, (⟨#[]⟩ : ByteArray), (⟨#[]⟩ : ByteArray), false, false)) else (if 7 ≤ (x0.size : Int) then ((strings_IndexAny.f (x0.extract 7 x0.size) (⟨#[47, 63]⟩ : ByteArray)).bind fun t211 => (if t211 < 0 then (impl_ReadUrl.j1 k (x0.extract 7 x0.size) ((x0.extract 7 x0.size).size : Int)) else (impl_ReadUrl.j1 k (x0.extract 7 x0.size) t211))) else (none))
def impl_ReadUrl.j1 : Nat → ByteArray → Int → Option (ByteArray × Int × ByteArray × ByteArray × Bool × Bool)
 | 0, _, _ => none
 | k + 1, x4, x5 => if 0 ≤ x5 then (if x5 ≤ (x4.size : Int) then ((strings_Cut.f (x4.extract 0 (x5 : Int).toNat) (⟨#[58]⟩ : ByteArray)).bind fun bt212 => ((impl_readPath.f (x4.extract (x5 : Int).toNat x4.size)).bind fun bt215 => ((impl_Fold.f bt212.1).bind fun t221 => (if bt212.2.2 = true then ((impl_ReadDec.f bt212.2.1).bind fun bt222 => (if bt222.2 = true then (impl_ReadUrl.j2 k t221 bt222.1 bt215.2.2.1 bt215.2.2.2.1 bt215.2.2.2.2) else (some ((⟨#[]⟩ : ByteArray), 0, (⟨#[]⟩ : ByteArray), (⟨#[]⟩ : ByteArray), false, false)))) else (impl_ReadUrl.j2 k t221 80 bt215.2.2.1 bt215.2.2.2.1 bt215.2.2.2.2))))) else (none)) else (none)
def impl_ReadUrl.j2 : Nat → ByteArray → Int → ByteArray → ByteArray → Bool → Option (ByteArray × Int × ByteArray × ByteArray × Bool × Bool)
 | 0, _, _, _, _, _ => none
 | k + 1, x221000, x221001, x221002, x221003, x221004 => if x221002.toList = ([] : List UInt8) then (impl_ReadUrl.j3 k x221000 x221001 (⟨#[47]⟩ : ByteArray) x221003 x221004) else (impl_ReadUrl.j3 k x221000 x221001 x221002 x221003 x221004)
def impl_ReadUrl.j3 : Nat → ByteArray → Int → ByteArray → ByteArray → Bool → Option (ByteArray × Int × ByteArray × ByteArray × Bool × Bool)
 | 0, _, _, _, _, _ => none
 | k + 1, x221000, x221001, x221002, x221003, x221004 => (impl_CleanPath.f k x221002).bind fun t224 => ((impl_UrlOk.f k x221000 x221001 t224 x221003 x221004).bind fun t225 => (if t225 = true then (some (x221000, x221001, t224, x221003, x221004, true)) else (some ((⟨#[]⟩ : ByteArray), 0, (⟨#[]⟩ : ByteArray), (⟨#[]⟩ : ByteArray), false, false))))
end
def impl_ReadUrl.f (k : Nat) (a0 : ByteArray) : Option (ByteArray × Int × ByteArray × ByteArray × Bool × Bool) := if (a0.size : Int) > 200 then (impl_ReadUrl.j0 k a0 true) else ((impl_all__impl_isVisible.f k a0).bind fun t208 => (if t208 = true then ((strings_Contains.f a0 (⟨#[35]⟩ : ByteArray)).bind fun t209 => (if t209 = true then (impl_ReadUrl.j0 k a0 true) else (if (a0.size : Int) < 7 then (impl_ReadUrl.j0 k a0 true) else (if 0 ≤ 7 then (if 7 ≤ (a0.size : Int) then ((impl_Fold.f (a0.extract 0 7)).bind fun t210 => (impl_ReadUrl.j0 k a0 (t210.toList != ([104, 116, 116, 112, 58, 47, 47] : List UInt8)))) else (none)) else (none))))) else (impl_ReadUrl.j0 k a0 true)))
theorem impl_ReadUrl.mono_l : ∀ k, (∀ y0 y1, LeO (impl_ReadUrl.j0 k y0 y1) (impl_ReadUrl.j0 (k + 1) y0 y1)) ∧ (∀ y0 y1, LeO (impl_ReadUrl.j1 k y0 y1) (impl_ReadUrl.j1 (k + 1) y0 y1)) ∧ (∀ y0 y1 y2 y3 y4, LeO (impl_ReadUrl.j2 k y0 y1 y2 y3 y4) (impl_ReadUrl.j2 (k + 1) y0 y1 y2 y3 y4)) ∧ (∀ y0 y1 y2 y3 y4, LeO (impl_ReadUrl.j3 k y0 y1 y2 y3 y4) (impl_ReadUrl.j3 (k + 1) y0 y1 y2 y3 y4))
 | 0 => ⟨fun _ _ r h => by simp [impl_ReadUrl.j0] at h, fun _ _ r h => by simp [impl_ReadUrl.j1] at h, fun _ _ _ _ _ r h => by simp [impl_ReadUrl.j2] at h, fun _ _ _ _ _ r h => by simp [impl_ReadUrl.j3] at h⟩
 | k + 1 => by
  obtain ⟨ih0, ih1, ih2, ih3⟩ := impl_ReadUrl.mono_l k
  refine ⟨?_, ?_, ?_, ?_⟩
  ·intro y0 y1
   unfold impl_ReadUrl.j0
   repeat' first | (with_reducible first | exact ih0 _ _ | exact ih1 _ _ | exact ih2 _ _ _ _ _ | exact ih3 _ _ _ _ _ | exact impl_CleanPath.mono _ _ | exact impl_UrlOk.mono _ _ _ _ _ _ | exact impl_all__impl_isVisible.mono _ _ | exact LeO.refl _ | exact LeO.none _ | refine LeO.ite ?_ ?_ | refine LeO.bind ?_ (fun _ => ?_)) | exact ih0 _ _ | exact ih1 _ _ | exact ih2 _ _ _ _ _ | exact ih3 _ _ _ _ _ | exact impl_CleanPath.mono _ _ | exact impl_UrlOk.mono _ _ _ _ _ _ | exact impl_all__impl_isVisible.mono _ _ | exact LeO.none _ | refine LeO.ite ?_ ?_ | refine LeO.bind ?_ (fun _ => ?_)
  ·intro y0 y1
   unfold impl_ReadUrl.j1
   repeat' first | (with_reducible first | exact ih0 _ _ | exact ih1 _ _ | exact ih2 _ _ _ _ _ | exact ih3 _ _ _ _ _ | exact impl_CleanPath.mono _ _ | exact impl_UrlOk.mono _ _ _ _ _ _ | exact impl_all__impl_isVisible.mono _ _ | exact LeO.refl _ | exact LeO.none _ | refine LeO.ite ?_ ?_ | refine LeO.bind ?_ (fun _ => ?_)) | exact ih0 _ _ | exact ih1 _ _ | exact ih2 _ _ _ _ _ | exact ih3 _ _ _ _ _ | exact impl_CleanPath.mono _ _ | exact impl_UrlOk.mono _ _ _ _ _ _ | exact impl_all__impl_isVisible.mono _ _ | exact LeO.none _ | refine LeO.ite ?_ ?_ | refine LeO.bind ?_ (fun _ => ?_)
  ·intro y0 y1 y2 y3 y4
   unfold impl_ReadUrl.j2
   repeat' first | (with_reducible first | exact ih0 _ _ | exact ih1 _ _ | exact ih2 _ _ _ _ _ | exact ih3 _ _ _ _ _ | exact impl_CleanPath.mono _ _ | exact impl_UrlOk.mono _ _ _ _ _ _ | exact impl_all__impl_isVisible.mono _ _ | exact LeO.refl _ | exact LeO.none _ | refine LeO.ite ?_ ?_ | refine LeO.bind ?_ (fun _ => ?_)) | exact ih0 _ _ | exact ih1 _ _ | exact ih2 _ _ _ _ _ | exact ih3 _ _ _ _ _ | exact impl_CleanPath.mono _ _ | exact impl_UrlOk.mono _ _ _ _ _ _ | exact impl_all__impl_isVisible.mono _ _ | exact LeO.none _ | refine LeO.ite ?_ ?_ | refine LeO.bind ?_ (fun _ => ?_)
  ·intro y0 y1 y2 y3 y4
   unfold impl_ReadUrl.j3
   repeat' first | (with_reducible first | exact ih0 _ _ | exact ih1 _ _ | exact ih2 _ _ _ _ _ | exact ih3 _ _ _ _ _ | exact impl_CleanPath.mono _ _ | exact impl_UrlOk.mono _ _ _ _ _ _ | exact impl_all__impl_isVisible.mono _ _ | exact LeO.refl _ | exact LeO.none _ | refine LeO.ite ?_ ?_ | refine LeO.bind ?_ (fun _ => ?_)) | exact ih0 _ _ | exact ih1 _ _ | exact ih2 _ _ _ _ _ | exact ih3 _ _ _ _ _ | exact impl_CleanPath.mono _ _ | exact impl_UrlOk.mono _ _ _ _ _ _ | exact impl_all__impl_isVisible.mono _ _ | exact LeO.none _ | refine LeO.ite ?_ ?_ | refine LeO.bind ?_ (fun _ => ?_)
theorem impl_ReadUrl.mono : ∀ a0 k, LeO (impl_ReadUrl.f k a0) (impl_ReadUrl.f (k + 1) a0) := by
 intro a0 k
 obtain ⟨ih0, ih1, ih2, ih3⟩ := impl_ReadUrl.mono_l k
 unfold impl_ReadUrl.f
 repeat' first | (with_reducible first | exact ih0 _ _ | exact ih1 _ _ | exact ih2 _ _ _ _ _ | exact ih3 _ _ _ _ _ | exact impl_CleanPath.mono _ _ | exact impl_UrlOk.mono _ _ _ _ _ _ | exact impl_all__impl_isVisible.mono _ _ | exact LeO.refl _ | exact LeO.none _ | refine LeO.ite ?_ ?_ | refine LeO.bind ?_ (fun _ => ?_)) | exact ih0 _ _ | exact ih1 _ _ | exact ih2 _ _ _ _ _ | exact ih3 _ _ _ _ _ | exact impl_CleanPath.mono _ _ | exact impl_UrlOk.mono _ _ _ _ _ _ | exact impl_all__impl_isVisible.mono _ _ | exact LeO.none _ | refine LeO.ite ?_ ?_ | refine LeO.bind ?_ (fun _ => ?_)
set_option maxHeartbeats 8000000 in
set_option maxRecDepth 100000 in
theorem impl_ReadUrl.calls (k : Nat) (a0 : ByteArray) (r1 : ByteArray) (r2 : Int) (r3 : ByteArray) (r4 : ByteArray) (r5 : Bool) (r6 : Bool) (w : World) (hG : Gl w) (h : impl_ReadUrl.f k a0 = some (r1, r2, r3, r4, r5, r6)) :
  Calls Tryz.prog 10 #[.string a0] w fun e w' => e = .returned (.tuple #[.agg #[.string r1, .int .i64 r2, .string r3, .string r4, .bool r5], .bool r6]) ∧ Below w.heap.size w w' := by
 have hu24 := Tryz.underlying24
 have HG := Aside0.mk hG
 clear hG
 have HB := Aside0.mk (Below.refl w.heap.size w)
 have H : (if (a0.size : Int) > 200 then (impl_ReadUrl.j0 k a0 true) else ((impl_all__impl_isVisible.f k a0).bind fun t208 => (if t208 = true then ((strings_Contains.f a0 (⟨#[35]⟩ : ByteArray)).bind fun t209 => (if t209 = true then (impl_ReadUrl.j0 k a0 true) else (if (a0.size : Int) < 7 then (impl_ReadUrl.j0 k a0 true) else (if 0 ≤ 7 then (if 7 ≤ (a0.size : Int) then ((impl_Fold.f (a0.extract 0 7)).bind fun t210 => (impl_ReadUrl.j0 k a0 (t210.toList != ([104, 116, 116, 112, 58, 47, 47] : List UInt8)))) else (none)) else (none))))) else (impl_ReadUrl.j0 k a0 true)))) = some (r1, r2, r3, r4, r5, r6) := h
 clear h
 have HC2 := Aside0.mk H
 clear H
 go_enter Tryz.func10, Tryz.ntmps10
 go_upto_region 1 with (first | ((with_reducible refine gate_dst (N := 2) rfl ?_); (try (refine gate_guard (by rfl) ?_; dsimp only)); refine boxP_ (N := 2) (cs := #[.string (⟨#[]⟩ : ByteArray), .int .i64 0, .string (⟨#[]⟩ : ByteArray), .string (⟨#[]⟩ : ByteArray), .bool false]) (t := 24) ?_; intro gb207 hg w3 hbox hb; have BK207 := Aside0.mk (hbox); have GE207 := geb_ (w := w) hg z0; replace HB := Aside0.mk (below_step z0 hb); clear hb hbox hg))
 (try simp only [Act.put, List.setIfInBounds_toArray, List.set_cons_zero, List.set_cons_succ])
 go_cut [34] (fun v34 wc => ∃ (kq : Nat) (x34_1 : Bool), v34 = .bool x34_1 ∧ Aside0 (impl_ReadUrl.j0 kq a0 x34_1 = some (r1, r2, r3, r4, r5, r6)) ∧ Aside0 (kq ≤ k) ∧ Aside0 (wc.heap[gb207]? = some (.cells #[.string (⟨#[]⟩ : ByteArray), .int .i64 0, .string (⟨#[]⟩ : ByteArray), .string (⟨#[]⟩ : ByteArray), .bool false] 24 (0, 0))) ∧ Aside0 (Below w.heap.size w wc))
 case first =>
  have H := HC2.out
  clear HC2
  by_cases c4 : (a0.size : Int) > 200
  ·rw [if_pos c4] at H
   have c4b0 : decide (200 < (a0.size : Int)) = true := decide_eq_true c4
   have c4b1 : decide (200 < a0.size) = true := decide_eq_true (by omega)
   clear c4
   (first | rw [c4b0] | (simp only [i64_w, i32_w]; rw [c4b0]) | skip)
   have H' := Aside0.mk H
   clear H
   go_wp2
   go_meet
   case rel => exact ⟨_, (true), z5, H', ⟨z31⟩, ⟨z19⟩, ⟨z13⟩⟩
  ·rw [if_neg c4] at H
   have c4b0 : decide (200 < (a0.size : Int)) = false := decide_eq_false c4
   have c4b1 : decide (200 < a0.size) = false := decide_eq_false (by omega)
   clear c4
   (first | rw [c4b0] | (simp only [i64_w, i32_w]; rw [c4b0]) | skip)
   replace H := Option.bind_eq_some_iff.mp H
   obtain ⟨t208, A50, H⟩ := H
   try dsimp only at H
   have A5 := Aside0.mk A50
   clear A50
   by_cases c6 : t208 = true
   ·subst c6
    rw [if_pos rfl] at H
    replace H := Option.bind_eq_some_iff.mp H
    obtain ⟨t209, A70, H⟩ := H
    try dsimp only at H
    have A7 := Aside0.mk A70
    clear A70
    by_cases c8 : t209 = true
    ·subst c8
     rw [if_pos rfl] at H
     have H' := Aside0.mk H
     clear H
     go_wp2_with (first | (go_at_call 30; (with_reducible refine (impl_all__impl_isVisible.calls k a0 true _ A5.out).mono ?_); rintro e w' ⟨rfl, ⟨nd, rfl⟩⟩) | (go_at_call 32; (with_reducible refine (strings_Contains.calls a0 (⟨#[35]⟩ : ByteArray) true _ ?side1 A7.out).mono ?_); (case side1 => exact Gl.below HG.out z13); rintro e w9 ⟨rfl, hb⟩; have n0_ := Aside0.mk (blk_below (g := gb207) (o := .cells #[.string (⟨#[]⟩ : ByteArray), .int .i64 0, .string (⟨#[]⟩ : ByteArray), .string (⟨#[]⟩ : ByteArray), .bool false] 24 (0, 0)) z19 hb); have n1_ := Aside0.mk (below_step z13 hb); clear BK207; clear HB; have BK207 := n0_; have HB := n1_; clear n0_ n1_; (try clear hb); (try clear hb2); (try clear hk); (try clear hi)))
     go_meet
     case rel => exact ⟨_, (true), z5, H', ⟨z31⟩, ⟨z19⟩, ⟨z13⟩⟩
    ·replace c8 := Bool.eq_false_iff.mpr c8
     subst c8
     rw [if_neg Bool.false_ne_true] at H
     by_cases c10 : (a0.size : Int) < 7
     ·rw [if_pos c10] at H
      have c10b0 : decide ((a0.size : Int) < 7) = true := decide_eq_true c10
      have c10b1 : decide (a0.size < 7) = true := decide_eq_true (by omega)
      clear c10
      have H' := Aside0.mk H
      clear H
      go_wp2_with (first | (go_at_call 30; (with_reducible refine (impl_all__impl_isVisible.calls k a0 true _ A5.out).mono ?_); rintro e w' ⟨rfl, ⟨nd, rfl⟩⟩) | (go_at_call 32; (with_reducible refine (strings_Contains.calls a0 (⟨#[35]⟩ : ByteArray) false _ ?side1 A7.out).mono ?_); (case side1 => exact Gl.below HG.out z13); rintro e w11 ⟨rfl, hb⟩; have n0_ := Aside0.mk (blk_below (g := gb207) (o := .cells #[.string (⟨#[]⟩ : ByteArray), .int .i64 0, .string (⟨#[]⟩ : ByteArray), .string (⟨#[]⟩ : ByteArray), .bool false] 24 (0, 0)) z19 hb); have n1_ := Aside0.mk (below_step z13 hb); clear BK207; clear HB; have BK207 := n0_; have HB := n1_; clear n0_ n1_; (try clear hb); (try clear hb2); (try clear hk); (try clear hi)))
      go_meet
      case rel => exact ⟨_, (true), z5, H', ⟨z31⟩, ⟨z19⟩, ⟨z13⟩⟩
     ·rw [if_neg c10] at H
      have c10b0 : decide ((a0.size : Int) < 7) = false := decide_eq_false c10
      have c10b1 : decide (a0.size < 7) = false := decide_eq_false (by omega)
      clear c10
      by_cases c12 : 0 ≤ 7
      ·rw [if_pos c12] at H
       have c12b0 := eq_true c12
       have c12b1 : decide (0 ≤ 7) = true := decide_eq_true c12
       clear c12
       by_cases c13 : 7 ≤ (a0.size : Int)
       ·rw [if_pos c13] at H
        have c13b0 := eq_true c13
        have c13b1 : decide (7 ≤ (a0.size : Int)) = true := decide_eq_true c13
        clear c13
        replace H := Option.bind_eq_some_iff.mp H
        obtain ⟨t210, A140, H⟩ := H
        try dsimp only at H
        have A14 := Aside0.mk A140
        clear A140
        have H' := Aside0.mk H
        clear H
        go_wp2_with (first | (go_at_call 30; (with_reducible refine (impl_all__impl_isVisible.calls k a0 true _ A5.out).mono ?_); rintro e w' ⟨rfl, ⟨nd, rfl⟩⟩) | (go_at_call 32; (with_reducible refine (strings_Contains.calls a0 (⟨#[35]⟩ : ByteArray) false _ ?side1 A7.out).mono ?_); (case side1 => exact Gl.below HG.out z13); rintro e w15 ⟨rfl, hb⟩; have n0_ := Aside0.mk (blk_below (g := gb207) (o := .cells #[.string (⟨#[]⟩ : ByteArray), .int .i64 0, .string (⟨#[]⟩ : ByteArray), .string (⟨#[]⟩ : ByteArray), .bool false] 24 (0, 0)) z19 hb); have n1_ := Aside0.mk (below_step z13 hb); clear BK207; clear HB; have BK207 := n0_; have HB := n1_; clear n0_ n1_; (try clear hb); (try clear hb2); (try clear hk); (try clear hi)) | (go_at_call 33; (with_reducible refine (impl_Fold.calls (a0.extract 0 7) t210 _ A14.out).mono ?_); rintro e w16 ⟨rfl, hb⟩; have n0_ := Aside0.mk (blk_below (g := gb207) (o := .cells #[.string (⟨#[]⟩ : ByteArray), .int .i64 0, .string (⟨#[]⟩ : ByteArray), .string (⟨#[]⟩ : ByteArray), .bool false] 24 (0, 0)) z19 hb); have n1_ := Aside0.mk (below_step z13 hb); clear BK207; clear HB; have BK207 := n0_; have HB := n1_; clear n0_ n1_; (try clear hb); (try clear hb2); (try clear hk); (try clear hi)))
        go_meet
        case rel => exact ⟨_, ((t210.toList != ([104, 116, 116, 112, 58, 47, 47] : List UInt8))), z5, H', ⟨z31⟩, ⟨z19⟩, ⟨z13⟩⟩
       ·rw [if_neg c13] at H
        exact absurd H (by simp)
      ·rw [if_neg c12] at H
       exact absurd H (by simp)
   ·replace c6 := Bool.eq_false_iff.mpr c6
    subst c6
    rw [if_neg Bool.false_ne_true] at H
    have H' := Aside0.mk H
    clear H
    go_wp2_with (first | (go_at_call 30; (with_reducible refine (impl_all__impl_isVisible.calls k a0 false _ A5.out).mono ?_); rintro e w' ⟨rfl, ⟨nd, rfl⟩⟩))
    go_meet
    case rel => exact ⟨_, (true), z5, H', ⟨z31⟩, ⟨z19⟩, ⟨z13⟩⟩
 case rest =>
  clear HC2
  try clear c1
  try clear p2
  try clear c4
  try clear c4b0
  try clear c4b1
  try clear c6
  try clear c8
  try clear c10
  try clear c10b0
  try clear c10b1
  try clear c12
  try clear c12b0
  try clear c12b1
  try clear c13
  try clear c13b0
  try clear c13b1
  obtain ⟨kq, x34_1, rfl, HA, HJ1, BK207, HB⟩ := hcut
  cases kq with
  | zero => exact absurd HA.out (by simp [impl_ReadUrl.j0])
  | succ kj1 =>
   have H := HA.out
   clear HA
   simp only [impl_ReadUrl.j0] at H
   by_cases c17 : x34_1 = true
   ·subst c17
    rw [if_pos rfl] at H
    simp only [Option.some.injEq, Prod.mk.injEq] at H
    obtain ⟨rfl, rfl, rfl, rfl, rfl, rfl⟩ := H
    have hcz18_0 : wc.cell? ⟨gb207, 0, none⟩ = some (.string (⟨#[]⟩ : ByteArray)) := (blk_cell BK207.out 0).trans rfl
    have hcz18_1 : wc.cell? ⟨gb207, 1, none⟩ = some (.int .i64 0) := (blk_cell BK207.out 1).trans rfl
    have hcz18_2 : wc.cell? ⟨gb207, 2, none⟩ = some (.string (⟨#[]⟩ : ByteArray)) := (blk_cell BK207.out 2).trans rfl
    have hcz18_3 : wc.cell? ⟨gb207, 3, none⟩ = some (.string (⟨#[]⟩ : ByteArray)) := (blk_cell BK207.out 3).trans rfl
    have hcz18_4 : wc.cell? ⟨gb207, 4, none⟩ = some (.bool false) := (blk_cell BK207.out 4).trans rfl
    have hfz18_0 := blk_frozen BK207.out 0
    have hfz18_1 := blk_frozen BK207.out 1
    have hfz18_2 := blk_frozen BK207.out 2
    have hfz18_3 := blk_frozen BK207.out 3
    have hfz18_4 := blk_frozen BK207.out 4
    go_wp2
    refine bodyPost_ret (results_ct rfl _ _ gb207 24 #[.string (⟨#[]⟩ : ByteArray), .int .i64 0, .string (⟨#[]⟩ : ByteArray), .string (⟨#[]⟩ : ByteArray), .bool false] (0, 0) _ rfl z29 Tryz.underlying24 rfl (by kernel_rfl)) rfl ?_
    exact ⟨z4, z13⟩
   ·replace c17 := Bool.eq_false_iff.mpr c17
    subst c17
    rw [if_neg Bool.false_ne_true] at H
    by_cases c19 : 7 ≤ (a0.size : Int)
    ·rw [if_pos c19] at H
     have c19b0 := eq_true c19
     have c19b1 : decide (7 ≤ (a0.size : Int)) = true := decide_eq_true c19
     clear c19
     replace H := Option.bind_eq_some_iff.mp H
     obtain ⟨t211, A200, H⟩ := H
     try dsimp only at H
     have A20 := Aside0.mk A200
     clear A200
     have HC21 := Aside0.mk H
     clear H
     go_upto_if 41 with (first | ((with_reducible refine gate_callee (f := 34) rfl ?_); refine goesQ_ 39 Tryz.func34 #[.string (a0.extract 7 a0.size), .string (⟨#[47, 63]⟩ : ByteArray)] ?_; (with_reducible refine (strings_IndexAny.calls (a0.extract 7 a0.size) (⟨#[47, 63]⟩ : ByteArray) t211 _ A20.out).mono ?_); rintro e w22 ⟨rfl, hb⟩; refine ⟨_, rfl, ?_⟩; replace BK207 := Aside0.mk (blk_below (g := gb207) (o := .cells #[.string (⟨#[]⟩ : ByteArray), .int .i64 0, .string (⟨#[]⟩ : ByteArray), .string (⟨#[]⟩ : ByteArray), .bool false] 24 (0, 0)) z19 hb); replace HB := Aside0.mk (below_step z13 hb); (try clear hb)))
     (try simp only [Act.put, List.setIfInBounds_toArray, List.set_cons_zero, List.set_cons_succ])
     go_cut [5] (fun v5 wc => ∃ (kq : Nat) (x5_20 : Int), v5 = .int .i64 x5_20 ∧ Aside0 (impl_ReadUrl.j1 kq (a0.extract 7 a0.size) x5_20 = some (r1, r2, r3, r4, r5, r6)) ∧ Aside0 (kq ≤ kj1) ∧ Aside0 (wc.heap[gb207]? = some (.cells #[.string (⟨#[]⟩ : ByteArray), .int .i64 0, .string (⟨#[]⟩ : ByteArray), .string (⟨#[]⟩ : ByteArray), .bool false] 24 (0, 0))) ∧ Aside0 (Below w.heap.size w wc))
     case first =>
      have H := HC21.out
      clear HC21
      by_cases c23 : t211 < 0
      ·rw [if_pos c23] at H
       have c23b0 : decide (t211 < 0) = true := decide_eq_true c23
       clear c23
       (first | rw [c23b0] | (simp only [i64_w, i32_w]; rw [c23b0]) | skip)
       have H' := Aside0.mk H
       clear H
       go_wp2
       go_meet
       case rel => exact ⟨_, (((a0.extract 7 a0.size).size : Int)), z5, H', ⟨z100⟩, ⟨z19⟩, ⟨z13⟩⟩
      ·rw [if_neg c23] at H
       have c23b0 : decide (t211 < 0) = false := decide_eq_false c23
       clear c23
       (first | rw [c23b0] | (simp only [i64_w, i32_w]; rw [c23b0]) | skip)
       have H' := Aside0.mk H
       clear H
       go_wp2
       go_meet
       case rel => exact ⟨_, (t211), z5, H', ⟨z100⟩, ⟨z19⟩, ⟨z13⟩⟩
     case rest =>
      clear HC21
      try clear c1
      try clear c2
      try clear p2
      try clear c3
      try clear c4
      try clear c4b0
      try clear c4b1
      try clear c6
      try clear c8
      try clear c10
      try clear c10b0
      try clear c10b1
      try clear c12
      try clear c12b0
      try clear c12b1
      try clear c13
      try clear c13b0
      try clear c13b1
      try clear c17
      try clear c19
      try clear c19b0
      try clear c19b1
      try clear c23
      try clear c23b0
      try clear hcz18_0
      try clear hcz18_1
      try clear hcz18_2
      try clear hcz18_3
      try clear hcz18_4
      try clear hfz18_0
      try clear hfz18_1
      try clear hfz18_2
      try clear hfz18_3
      try clear hfz18_4
      try clear p2
      obtain ⟨kq, x5_20, rfl, HA, HJ20, BK207, HB⟩ := hcut
      cases kq with
      | zero => exact absurd HA.out (by simp [impl_ReadUrl.j1])
      | succ kj20 =>
       have H := HA.out
       clear HA
       simp only [impl_ReadUrl.j1] at H
       by_cases c24 : 0 ≤ x5_20
       ·rw [if_pos c24] at H
        have c24b0 := eq_true c24
        have c24b1 : decide (0 ≤ x5_20) = true := decide_eq_true c24
        clear c24
        by_cases c25 : x5_20 ≤ ((a0.extract 7 a0.size).size : Int)
        ·rw [if_pos c25] at H
         have c25b0 := eq_true c25
         have c25b1 : decide (x5_20 ≤ ((a0.extract 7 a0.size).size : Int)) = true := decide_eq_true c25
         try have c25x := c25b1; simp only [ByteArray.size_extract, Nat.min_self] at c25x; have c25y := eq_true (of_decide_eq_true c25x)
         clear c25
         replace H := Option.bind_eq_some_iff.mp H
         obtain ⟨⟨t212, t213, t214⟩, A260, H⟩ := H
         try dsimp only at H
         have A26 := Aside0.mk A260
         clear A260
         have c27b0 := eq_true (of_decide_eq_true z3 : 0 ≤ x5_20)
         have c28b0 := eq_true (of_decide_eq_true z3 : x5_20 ≤ ((a0.extract 7 a0.size).size : Int))
         replace H := Option.bind_eq_some_iff.mp H
         obtain ⟨⟨t215, t216, t217, t218, t219⟩, A290, H⟩ := H
         try dsimp only at H
         have A29 := Aside0.mk A290
         clear A290
         replace H := Option.bind_eq_some_iff.mp H
         obtain ⟨t221, A300, H⟩ := H
         try dsimp only at H
         have A30 := Aside0.mk A300
         clear A300
         have HC31 := Aside0.mk H
         clear H
         go_upto_if 60 with (first | ((with_reducible refine gate_callee (f := 35) rfl ?_); refine goesQ_ 48 Tryz.func35 #[.string ((a0.extract 7 a0.size).extract 0 (x5_20 : Int).toNat), .string (⟨#[58]⟩ : ByteArray)] ?_; (with_reducible refine (strings_Cut.calls ((a0.extract 7 a0.size).extract 0 (x5_20 : Int).toNat) (⟨#[58]⟩ : ByteArray) t212 t213 t214 _ ?side1 A26.out).mono ?_); (case side1 => exact Gl.below HG.out z13); rintro e w32 ⟨rfl, hb⟩; refine ⟨_, rfl, ?_⟩; replace BK207 := Aside0.mk (blk_below (g := gb207) (o := .cells #[.string (⟨#[]⟩ : ByteArray), .int .i64 0, .string (⟨#[]⟩ : ByteArray), .string (⟨#[]⟩ : ByteArray), .bool false] 24 (0, 0)) z19 hb); replace HB := Aside0.mk (below_step z13 hb); (try clear hb)) | ((with_reducible refine gate_callee (f := 36) rfl ?_); refine goesQ_ 55 Tryz.func36 #[.string ((a0.extract 7 a0.size).extract (x5_20 : Int).toNat (a0.size - 7))] ?_; (with_reducible refine (impl_readPath.calls ((a0.extract 7 a0.size).extract (x5_20 : Int).toNat (a0.size - 7)) t215 t216 t217 t218 t219 _ ?side1 (by have h_ := A29.out; rw [ByteArray.size_extract, Nat.min_self] at h_; exact h_)).mono ?_); (case side1 => exact Gl.below HG.out z13); rintro e w33 ⟨rfl, hb⟩; refine ⟨_, rfl, ?_⟩; replace BK207 := Aside0.mk (blk_below (g := gb207) (o := .cells #[.string (⟨#[]⟩ : ByteArray), .int .i64 0, .string (⟨#[]⟩ : ByteArray), .string (⟨#[]⟩ : ByteArray), .bool false] 24 (0, 0)) z19 hb); replace HB := Aside0.mk (below_step z13 hb); (try clear hb)) | ((with_reducible refine gate_dst (N := 9) rfl ?_); (try (refine gate_guard (by rfl) ?_; dsimp only)); refine boxP_ (N := 9) (cs := #[.string (⟨#[]⟩ : ByteArray), .int .i64 0, .string (⟨#[]⟩ : ByteArray), .string (⟨#[]⟩ : ByteArray), .bool false]) (t := 24) ?_; intro gb220 hg w34 hbox hb; have BK220 := Aside0.mk (hbox); have GE220 := geb_ (w := w) hg z13; replace HB := Aside0.mk (below_step z13 hb); have NB207_220 := Aside0.mk ((by rw [hg]; exact Nat.ne_of_lt (blk_lt (g := gb207) (o := .cells #[.string (⟨#[]⟩ : ByteArray), .int .i64 0, .string (⟨#[]⟩ : ByteArray), .string (⟨#[]⟩ : ByteArray), .bool false] 24 (0, 0)) z19) : gb207 ≠ gb220)); have NB220_207 := Aside0.mk ((by rw [hg]; exact Nat.ne_of_gt (blk_lt (g := gb207) (o := .cells #[.string (⟨#[]⟩ : ByteArray), .int .i64 0, .string (⟨#[]⟩ : ByteArray), .string (⟨#[]⟩ : ByteArray), .bool false] 24 (0, 0)) z19) : gb220 ≠ gb207)); replace BK207 := Aside0.mk (blk_below (g := gb207) (o := .cells #[.string (⟨#[]⟩ : ByteArray), .int .i64 0, .string (⟨#[]⟩ : ByteArray), .string (⟨#[]⟩ : ByteArray), .bool false] 24 (0, 0)) z19 hb); clear hb hbox hg; have hnb35 := NB220_207.out; have hnc35 := NB207_220.out; obtain ⟨hcz36_0, hcz36_1, hcz36_2, hcz36_3, hcz36_4, hfz36_0, hfz36_1, hfz36_2, hfz36_3, hfz36_4⟩ := cells5_ BK220.out) | ((with_reducible refine gate_callee (f := 33) rfl ?_); refine goesQ_ 57 Tryz.func33 #[.string t212] ?_; (with_reducible refine (impl_Fold.calls t212 t221 _ A30.out).mono ?_); rintro e w37 ⟨rfl, hb⟩; refine ⟨_, rfl, ?_⟩; replace BK207 := Aside0.mk (blk_below (g := gb207) (o := .cells #[.string (⟨#[]⟩ : ByteArray), .int .i64 0, .string (⟨#[]⟩ : ByteArray), .string (⟨#[]⟩ : ByteArray), .bool false] 24 (0, 0)) (by (with_reducible repeat (first | refine blk_drewN ?_ _ | refine blk_drew ?_ | refine blk_alloc ?_ _)); refine blk_far ?_ NB207_220.out _; (with_reducible repeat (first | refine blk_drewN ?_ _ | refine blk_drew ?_ | refine blk_alloc ?_ _)); refine blk_far ?_ NB207_220.out _; (with_reducible repeat (first | refine blk_drewN ?_ _ | refine blk_drew ?_ | refine blk_alloc ?_ _)); refine blk_far ?_ NB207_220.out _; (with_reducible repeat (first | refine blk_drewN ?_ _ | refine blk_drew ?_ | refine blk_alloc ?_ _)); refine blk_far ?_ NB207_220.out _; (with_reducible repeat (first | refine blk_drewN ?_ _ | refine blk_drew ?_ | refine blk_alloc ?_ _)); refine blk_far ?_ NB207_220.out _; (with_reducible repeat (first | refine blk_drewN ?_ _ | refine blk_drew ?_ | refine blk_alloc ?_ _)); exact BK207.out) hb); replace BK220 := Aside0.mk (blk_below (g := gb220) (o := .cells #[.string t215, .int .i64 t216, .string t217, .string t218, .bool t219] 24 (0, 0)) (by (with_reducible repeat (first | refine blk_drewN ?_ _ | refine blk_drew ?_ | refine blk_alloc ?_ _)); refine blk_put (cs := #[.string t215, .int .i64 t216, .string t217, .string t218, .bool false]) ?_ 4 _ rfl; (with_reducible repeat (first | refine blk_drewN ?_ _ | refine blk_drew ?_ | refine blk_alloc ?_ _)); refine blk_put (cs := #[.string t215, .int .i64 t216, .string t217, .string (⟨#[]⟩ : ByteArray), .bool false]) ?_ 3 _ rfl; (with_reducible repeat (first | refine blk_drewN ?_ _ | refine blk_drew ?_ | refine blk_alloc ?_ _)); refine blk_put (cs := #[.string t215, .int .i64 t216, .string (⟨#[]⟩ : ByteArray), .string (⟨#[]⟩ : ByteArray), .bool false]) ?_ 2 _ rfl; (with_reducible repeat (first | refine blk_drewN ?_ _ | refine blk_drew ?_ | refine blk_alloc ?_ _)); refine blk_put (cs := #[.string t215, .int .i64 0, .string (⟨#[]⟩ : ByteArray), .string (⟨#[]⟩ : ByteArray), .bool false]) ?_ 1 _ rfl; (with_reducible repeat (first | refine blk_drewN ?_ _ | refine blk_drew ?_ | refine blk_alloc ?_ _)); refine blk_put (cs := #[.string (⟨#[]⟩ : ByteArray), .int .i64 0, .string (⟨#[]⟩ : ByteArray), .string (⟨#[]⟩ : ByteArray), .bool false]) ?_ 0 _ rfl; (with_reducible repeat (first | refine blk_drewN ?_ _ | refine blk_drew ?_ | refine blk_alloc ?_ _)); exact BK220.out) hb); replace HB := Aside0.mk (below_step z12 hb); (try clear hb); obtain ⟨hcz38_0, hcz38_1, hcz38_2, hcz38_3, hcz38_4, hfz38_0, hfz38_1, hfz38_2, hfz38_3, hfz38_4⟩ := cells5_ BK220.out))
         (try simp only [Act.put, List.setIfInBounds_toArray, List.set_cons_zero, List.set_cons_succ])
         go_cut [] (fun wc => ∃ (kq : Nat) (x208000_30 : ByteArray) (x208001_30 : Int) (x208002_30 : ByteArray) (x208003_30 : ByteArray) (x208004_30 : Bool) (x221001_30 : Int), Aside0 (impl_ReadUrl.j2 kq t221 x221001_30 t217 t218 t219 = some (r1, r2, r3, r4, r5, r6)) ∧ Aside0 (kq ≤ kj20) ∧ Aside0 (wc.heap[gb207]? = some (.cells #[.string x208000_30, .int .i64 x208001_30, .string x208002_30, .string x208003_30, .bool x208004_30] 24 (0, 0))) ∧ Aside0 (wc.heap[gb220]? = some (.cells #[.string t221, .int .i64 x221001_30, .string t217, .string t218, .bool t219] 24 (0, 0))) ∧ Aside0 (Below w.heap.size w wc))
         case first =>
          have H := HC31.out
          clear HC31
          by_cases c39 : t214 = true
          ·subst c39
           rw [if_pos rfl] at H
           replace H := Option.bind_eq_some_iff.mp H
           obtain ⟨⟨t222, t223⟩, A400, H⟩ := H
           try dsimp only at H
           have A40 := Aside0.mk A400
           clear A400
           by_cases c41 : t223 = true
           ·subst c41
            rw [if_pos rfl] at H
            have H' := Aside0.mk H
            clear H
            go_wp2_with (first | ((with_reducible refine gate_callee (f := 37) rfl ?_); refine goesQ_ 63 Tryz.func37 #[.string t213] ?_; (with_reducible refine (impl_ReadDec.calls t213 t222 true _ ?side1 A40.out).mono ?_); (case side1 => exact Gl.below HG.out z12); rintro e w42 ⟨rfl, hb⟩; refine ⟨_, rfl, ?_⟩; replace BK207 := Aside0.mk (blk_below (g := gb207) (o := .cells #[.string (⟨#[]⟩ : ByteArray), .int .i64 0, .string (⟨#[]⟩ : ByteArray), .string (⟨#[]⟩ : ByteArray), .bool false] 24 (0, 0)) z37 hb); replace BK220 := Aside0.mk (blk_below (g := gb220) (o := .cells #[.string t221, .int .i64 80, .string t217, .string t218, .bool t219] 24 (0, 0)) z36 hb); replace HB := Aside0.mk (below_step z12 hb); (try clear hb); have hnb43 := NB220_207.out; have hnc43 := NB207_220.out; obtain ⟨hcz44_0, hcz44_1, hcz44_2, hcz44_3, hcz44_4, hfz44_0, hfz44_1, hfz44_2, hfz44_3, hfz44_4⟩ := cells5_ BK220.out))
            go_meet
            case rel => exact ⟨_, ((⟨#[]⟩ : ByteArray)), (0), ((⟨#[]⟩ : ByteArray)), ((⟨#[]⟩ : ByteArray)), (false), (t222), H', ⟨z81⟩, ⟨z38⟩, ⟨by (with_reducible repeat (first | refine blk_drewN ?_ _ | refine blk_drew ?_ | refine blk_alloc ?_ _)); refine blk_put (cs := #[.string t221, .int .i64 80, .string t217, .string t218, .bool t219]) ?_ 1 _ rfl; (with_reducible repeat (first | refine blk_drewN ?_ _ | refine blk_drew ?_ | refine blk_alloc ?_ _)); exact BK220.out⟩, ⟨z12⟩⟩
           ·replace c41 := Bool.eq_false_iff.mpr c41
            subst c41
            rw [if_neg Bool.false_ne_true] at H
            simp only [Option.some.injEq, Prod.mk.injEq] at H
            obtain ⟨rfl, rfl, rfl, rfl, rfl, rfl⟩ := H
            go_wp2_with (first | ((with_reducible refine gate_callee (f := 37) rfl ?_); refine goesQ_ 63 Tryz.func37 #[.string t213] ?_; (with_reducible refine (impl_ReadDec.calls t213 t222 false _ ?side1 A40.out).mono ?_); (case side1 => exact Gl.below HG.out z12); rintro e w45 ⟨rfl, hb⟩; refine ⟨_, rfl, ?_⟩; replace BK207 := Aside0.mk (blk_below (g := gb207) (o := .cells #[.string (⟨#[]⟩ : ByteArray), .int .i64 0, .string (⟨#[]⟩ : ByteArray), .string (⟨#[]⟩ : ByteArray), .bool false] 24 (0, 0)) z37 hb); replace BK220 := Aside0.mk (blk_below (g := gb220) (o := .cells #[.string t221, .int .i64 80, .string t217, .string t218, .bool t219] 24 (0, 0)) z36 hb); replace HB := Aside0.mk (below_step z12 hb); (try clear hb); have hnb46 := NB207_220.out; have hnc46 := NB220_207.out; obtain ⟨hcz47_0, hcz47_1, hcz47_2, hcz47_3, hcz47_4, hfz47_0, hfz47_1, hfz47_2, hfz47_3, hfz47_4⟩ := cells5_ BK207.out))
            refine bodyPost_ret (results_ct rfl _ _ gb207 24 #[.string (⟨#[]⟩ : ByteArray), .int .i64 0, .string (⟨#[]⟩ : ByteArray), .string (⟨#[]⟩ : ByteArray), .bool false] (0, 0) _ rfl z29 Tryz.underlying24 rfl (by kernel_rfl)) rfl ?_
            exact ⟨z4, z12⟩
          ·replace c39 := Bool.eq_false_iff.mpr c39
           subst c39
           rw [if_neg Bool.false_ne_true] at H
           have H' := Aside0.mk H
           clear H
           go_wp2
           go_meet
           case rel => exact ⟨_, ((⟨#[]⟩ : ByteArray)), (0), ((⟨#[]⟩ : ByteArray)), ((⟨#[]⟩ : ByteArray)), (false), (80), H', ⟨z81⟩, ⟨z37⟩, ⟨z36⟩, ⟨z12⟩⟩
         case rest =>
          clear HC31
          try clear c1
          try clear c2
          try clear p2
          try clear c3
          try clear c4
          try clear c4b0
          try clear c4b1
          try clear c6
          try clear c8
          try clear c10
          try clear c10b0
          try clear c10b1
          try clear c12
          try clear c12b0
          try clear c12b1
          try clear c13
          try clear c13b0
          try clear c13b1
          try clear c17
          try clear c19
          try clear c19b0
          try clear c19b1
          try clear c23
          try clear c23b0
          try clear c24
          try clear c24b0
          try clear c24b1
          try clear c25
          try clear c25b0
          try clear c25b1
          try clear c27
          try clear c27b0
          try clear c28
          try clear c28b0
          try clear c33
          try clear c34
          try clear c35
          try clear c36
          try clear c37
          try clear c39
          try clear c41
          try clear c43
          try clear c46
          try clear hcz18_0
          try clear hcz18_1
          try clear hcz18_2
          try clear hcz18_3
          try clear hcz18_4
          try clear hcz36_0
          try clear hcz36_1
          try clear hcz36_2
          try clear hcz36_3
          try clear hcz36_4
          try clear hcz38_0
          try clear hcz38_1
          try clear hcz38_2
          try clear hcz38_3
          try clear hcz38_4
          try clear hcz44_0
          try clear hcz44_1
          try clear hcz44_2
          try clear hcz44_3
          try clear hcz44_4
          try clear hcz47_0
          try clear hcz47_1
          try clear hcz47_2
          try clear hcz47_3
          try clear hcz47_4
          try clear hfz18_0
          try clear hfz18_1
          try clear hfz18_2
          try clear hfz18_3
          try clear hfz18_4
          try clear hfz36_0
          try clear hfz36_1
          try clear hfz36_2
          try clear hfz36_3
          try clear hfz36_4
          try clear hfz38_0
          try clear hfz38_1
          try clear hfz38_2
          try clear hfz38_3
          try clear hfz38_4
          try clear hfz44_0
          try clear hfz44_1
          try clear hfz44_2
          try clear hfz44_3
          try clear hfz44_4
          try clear hfz47_0
          try clear hfz47_1
          try clear hfz47_2
          try clear hfz47_3
          try clear hfz47_4
          try clear p2
          obtain ⟨kq, x208000_30, x208001_30, x208002_30, x208003_30, x208004_30, x221001_30, HA, HJ30, BK207, BK220, HB⟩ := hcut
          cases kq with
          | zero => exact absurd HA.out (by simp [impl_ReadUrl.j2])
          | succ kj30 =>
           have H := HA.out
           clear HA
           simp only [impl_ReadUrl.j2] at H
           have HC48 := Aside0.mk H
           clear H
           have hnb49 := NB220_207.out
           have hnc49 := NB207_220.out
           have hcz50_0 : wc.cell? ⟨gb220, 0, none⟩ = some (.string t221) := (blk_cell BK220.out 0).trans rfl
           have hcz50_1 : wc.cell? ⟨gb220, 1, none⟩ = some (.int .i64 x221001_30) := (blk_cell BK220.out 1).trans rfl
           have hcz50_2 : wc.cell? ⟨gb220, 2, none⟩ = some (.string t217) := (blk_cell BK220.out 2).trans rfl
           have hcz50_3 : wc.cell? ⟨gb220, 3, none⟩ = some (.string t218) := (blk_cell BK220.out 3).trans rfl
           have hcz50_4 : wc.cell? ⟨gb220, 4, none⟩ = some (.bool t219) := (blk_cell BK220.out 4).trans rfl
           have hfz50_0 := blk_frozen BK220.out 0
           have hfz50_1 := blk_frozen BK220.out 1
           have hfz50_2 := blk_frozen BK220.out 2
           have hfz50_3 := blk_frozen BK220.out 3
           have hfz50_4 := blk_frozen BK220.out 4
           go_upto_if 73 with (fail)
           go_cut [] (fun wc => ∃ (kq : Nat) (x221002_47 : ByteArray), Aside0 (impl_ReadUrl.j3 kq t221 x221001_30 x221002_47 t218 t219 = some (r1, r2, r3, r4, r5, r6)) ∧ Aside0 (kq ≤ kj30) ∧ Aside0 (wc.heap[gb207]? = some (.cells #[.string x208000_30, .int .i64 x208001_30, .string x208002_30, .string x208003_30, .bool x208004_30] 24 (0, 0))) ∧ Aside0 (wc.heap[gb220]? = some (.cells #[.string t221, .int .i64 x221001_30, .string x221002_47, .string t218, .bool t219] 24 (0, 0))) ∧ Aside0 (Below w.heap.size w wc))
           case first =>
            have H := HC48.out
            clear HC48
            by_cases c51 : t217.toList = ([] : List UInt8)
            ·rw [if_pos c51] at H
             have c51b0 : (t217.toList == ([] : List UInt8)) = true := beq_iff_eq.mpr c51
             have c51e : t217.toList.isEmpty = true := by have hz_ := beq_iff_eq.1 c51b0; rw [hz_]; rfl
             (try rw [c51e])
             have c51b1 : (t217.toList != ([] : List UInt8)) = false := bne_eq_false_iff_eq.mpr c51
             clear c51
             (first | rw [c51b0] | (simp only [i64_w, i32_w]; rw [c51b0]) | skip)
             have H' := Aside0.mk H
             clear H
             have hnb52 := NB220_207.out
             have hnc52 := NB207_220.out
             have hcz53_0 : wc.cell? ⟨gb220, 0, none⟩ = some (.string t221) := (blk_cell BK220.out 0).trans rfl
             have hcz53_1 : wc.cell? ⟨gb220, 1, none⟩ = some (.int .i64 x221001_30) := (blk_cell BK220.out 1).trans rfl
             have hcz53_2 : wc.cell? ⟨gb220, 2, none⟩ = some (.string t217) := (blk_cell BK220.out 2).trans rfl
             have hcz53_3 : wc.cell? ⟨gb220, 3, none⟩ = some (.string t218) := (blk_cell BK220.out 3).trans rfl
             have hcz53_4 : wc.cell? ⟨gb220, 4, none⟩ = some (.bool t219) := (blk_cell BK220.out 4).trans rfl
             have hfz53_0 := blk_frozen BK220.out 0
             have hfz53_1 := blk_frozen BK220.out 1
             have hfz53_2 := blk_frozen BK220.out 2
             have hfz53_3 := blk_frozen BK220.out 3
             have hfz53_4 := blk_frozen BK220.out 4
             go_wp2
             go_meet
             case rel => exact ⟨_, ((⟨#[47]⟩ : ByteArray)), H', ⟨by have := HJ1.out; have := HJ20.out; have := HJ30.out; first | omega | exact Nat.le_refl _⟩, ⟨z38⟩, ⟨by (with_reducible repeat (first | refine blk_drewN ?_ _ | refine blk_drew ?_ | refine blk_alloc ?_ _)); refine blk_put (cs := #[.string t221, .int .i64 x221001_30, .string t217, .string t218, .bool t219]) ?_ 2 _ rfl; (with_reducible repeat (first | refine blk_drewN ?_ _ | refine blk_drew ?_ | refine blk_alloc ?_ _)); exact BK220.out⟩, ⟨z12⟩⟩
            ·rw [if_neg c51] at H
             have c51b0 : (t217.toList == ([] : List UInt8)) = false := beq_eq_false_iff_ne.mpr c51
             have c51e : t217.toList.isEmpty = false := by cases hz_ : t217.toList with | nil => (rw [hz_] at c51b0; exact absurd c51b0 (by decide)) | cons _ _ => rfl
             (try rw [c51e])
             have c51b1 : (t217.toList != ([] : List UInt8)) = true := bne_iff_ne.mpr c51
             (first | rw [c51b0] | (simp only [i64_w, i32_w]; rw [c51b0]) | skip)
             have H' := Aside0.mk H
             clear H
             go_wp2
             go_meet
             case rel => exact ⟨_, (t217), H', ⟨by have := HJ1.out; have := HJ20.out; have := HJ30.out; first | omega | exact Nat.le_refl _⟩, ⟨z19⟩, ⟨z76⟩, ⟨z12⟩⟩
           case rest =>
            clear HC48
            try clear c1
            try clear c2
            try clear p2
            try clear c3
            try clear c4
            try clear c4b0
            try clear c4b1
            try clear c5
            try clear c6
            try clear c8
            try clear c10
            try clear c10b0
            try clear c10b1
            try clear c12
            try clear c12b0
            try clear c12b1
            try clear c13
            try clear c13b0
            try clear c13b1
            try clear c17
            try clear c19
            try clear c19b0
            try clear c19b1
            try clear c23
            try clear c23b0
            try clear c24
            try clear c24b0
            try clear c24b1
            try clear c25
            try clear c25b0
            try clear c25b1
            try clear c27
            try clear c27b0
            try clear c28
            try clear c28b0
            try clear c33
            try clear c34
            try clear c35
            try clear c36
            try clear c37
            try clear c39
            try clear c41
            try clear c43
            try clear c46
            try clear c49
            try clear c51
            try clear c51b0
            try clear c51b1
            try clear c52
            try clear hcz18_0
            try clear hcz18_1
            try clear hcz18_2
            try clear hcz18_3
            try clear hcz18_4
            try clear hcz36_0
            try clear hcz36_1
            try clear hcz36_2
            try clear hcz36_3
            try clear hcz36_4
            try clear hcz38_0
            try clear hcz38_1
            try clear hcz38_2
            try clear hcz38_3
            try clear hcz38_4
            try clear hcz44_0
            try clear hcz44_1
            try clear hcz44_2
            try clear hcz44_3
            try clear hcz44_4
            try clear hcz47_0
            try clear hcz47_1
            try clear hcz47_2
            try clear hcz47_3
            try clear hcz47_4
            try clear hcz50_0
            try clear hcz50_1
            try clear hcz50_2
            try clear hcz50_3
            try clear hcz50_4
            try clear hcz53_0
            try clear hcz53_1
            try clear hcz53_2
            try clear hcz53_3
            try clear hcz53_4
            try clear hfz18_0
            try clear hfz18_1
            try clear hfz18_2
            try clear hfz18_3
            try clear hfz18_4
            try clear hfz36_0
            try clear hfz36_1
            try clear hfz36_2
            try clear hfz36_3
            try clear hfz36_4
            try clear hfz38_0
            try clear hfz38_1
            try clear hfz38_2
            try clear hfz38_3
            try clear hfz38_4
            try clear hfz44_0
            try clear hfz44_1
            try clear hfz44_2
            try clear hfz44_3
            try clear hfz44_4
            try clear hfz47_0
            try clear hfz47_1
            try clear hfz47_2
            try clear hfz47_3
            try clear hfz47_4
            try clear hfz50_0
            try clear hfz50_1
            try clear hfz50_2
            try clear hfz50_3
            try clear hfz50_4
            try clear hfz53_0
            try clear hfz53_1
            try clear hfz53_2
            try clear hfz53_3
            try clear hfz53_4
            try clear p2
            obtain ⟨kq, x221002_47, HA, HJ47, BK207, BK220, HB⟩ := hcut
            cases kq with
            | zero => exact absurd HA.out (by simp [impl_ReadUrl.j3])
            | succ kj47 =>
             have H := HA.out
             clear HA
             simp only [impl_ReadUrl.j3] at H
             replace H := Option.bind_eq_some_iff.mp H
             obtain ⟨t224, A540, H⟩ := H
             try dsimp only at H
             have A54 := Aside0.mk A540
             clear A540
             replace H := Option.bind_eq_some_iff.mp H
             obtain ⟨t225, A550, H⟩ := H
             try dsimp only at H
             have A55 := Aside0.mk A550
             clear A550
             by_cases c56 : t225 = true
             ·subst c56
              rw [if_pos rfl] at H
              simp only [Option.some.injEq, Prod.mk.injEq] at H
              obtain ⟨rfl, rfl, rfl, rfl, rfl, rfl⟩ := H
              have hnb57 := NB220_207.out
              have hnc57 := NB207_220.out
              have hcz58_0 : wc.cell? ⟨gb220, 0, none⟩ = some (.string t221) := (blk_cell BK220.out 0).trans rfl
              have hcz58_1 : wc.cell? ⟨gb220, 1, none⟩ = some (.int .i64 x221001_30) := (blk_cell BK220.out 1).trans rfl
              have hcz58_2 : wc.cell? ⟨gb220, 2, none⟩ = some (.string x221002_47) := (blk_cell BK220.out 2).trans rfl
              have hcz58_3 : wc.cell? ⟨gb220, 3, none⟩ = some (.string t218) := (blk_cell BK220.out 3).trans rfl
              have hcz58_4 : wc.cell? ⟨gb220, 4, none⟩ = some (.bool t219) := (blk_cell BK220.out 4).trans rfl
              have hfz58_0 := blk_frozen BK220.out 0
              have hfz58_1 := blk_frozen BK220.out 1
              have hfz58_2 := blk_frozen BK220.out 2
              have hfz58_3 := blk_frozen BK220.out 3
              have hfz58_4 := blk_frozen BK220.out 4
              go_wp2_with (first | ((with_reducible refine gate_callee (f := 38) rfl ?_); refine goesQ_ 77 Tryz.func38 #[.string x221002_47] ?_; (with_reducible refine (impl_CleanPath.calls kj47 x221002_47 t224 _ ?side1 A54.out).mono ?_); (case side1 => exact Gl.below HG.out z12); rintro e w59 ⟨rfl, hb⟩; refine ⟨_, rfl, ?_⟩; replace BK207 := Aside0.mk (blk_below (g := gb207) (o := .cells #[.string x208000_30, .int .i64 x208001_30, .string x208002_30, .string x208003_30, .bool x208004_30] 24 (0, 0)) z19 hb); replace BK220 := Aside0.mk (blk_below (g := gb220) (o := .cells #[.string t221, .int .i64 x221001_30, .string x221002_47, .string t218, .bool t219] 24 (0, 0)) z76 hb); replace HB := Aside0.mk (below_step z12 hb); (try clear hb); obtain ⟨hcz60_0, hcz60_1, hcz60_2, hcz60_3, hcz60_4, hfz60_0, hfz60_1, hfz60_2, hfz60_3, hfz60_4⟩ := cells5_ BK220.out) | ((with_reducible refine gate_callee (f := 23) rfl ?_); refine goesQ_ 80 Tryz.func23 #[.agg #[.string t221, .int .i64 x221001_30, .string t224, .string t218, .bool t219]] ?_; (with_reducible refine (impl_UrlOk.calls kj47 t221 x221001_30 t224 t218 t219 true _ ?side1 A55.out).mono ?_); (case side1 => exact Gl.below HG.out z12); rintro e w61 ⟨rfl, hb⟩; refine ⟨_, rfl, ?_⟩; replace BK207 := Aside0.mk (blk_below (g := gb207) (o := .cells #[.string x208000_30, .int .i64 x208001_30, .string x208002_30, .string x208003_30, .bool x208004_30] 24 (0, 0)) z38 hb); replace BK220 := Aside0.mk (blk_below (g := gb220) (o := .cells #[.string t221, .int .i64 x221001_30, .string t224, .string t218, .bool t219] 24 (0, 0)) z61 hb); replace HB := Aside0.mk (below_step z12 hb); (try clear hb); obtain ⟨hcz62_0, hcz62_1, hcz62_2, hcz62_3, hcz62_4, hfz62_0, hfz62_1, hfz62_2, hfz62_3, hfz62_4⟩ := cells5_ BK220.out; obtain ⟨hcz63_0, hcz63_1, hcz63_2, hcz63_3, hcz63_4, hfz63_0, hfz63_1, hfz63_2, hfz63_3, hfz63_4⟩ := cells5_ BK207.out))
              refine bodyPost_ret (results_ct rfl _ _ gb207 24 #[.string t221, .int .i64 x221001_30, .string t224, .string t218, .bool t219] (0, 0) _ rfl (by (with_reducible repeat (first | refine blk_drewN ?_ _ | refine blk_drew ?_ | refine blk_alloc ?_ _)); refine blk_put (cs := #[.string t221, .int .i64 x221001_30, .string t224, .string t218, .bool x208004_30]) ?_ 4 _ rfl; (with_reducible repeat (first | refine blk_drewN ?_ _ | refine blk_drew ?_ | refine blk_alloc ?_ _)); refine blk_put (cs := #[.string t221, .int .i64 x221001_30, .string t224, .string x208003_30, .bool x208004_30]) ?_ 3 _ rfl; (with_reducible repeat (first | refine blk_drewN ?_ _ | refine blk_drew ?_ | refine blk_alloc ?_ _)); refine blk_put (cs := #[.string t221, .int .i64 x221001_30, .string x208002_30, .string x208003_30, .bool x208004_30]) ?_ 2 _ rfl; (with_reducible repeat (first | refine blk_drewN ?_ _ | refine blk_drew ?_ | refine blk_alloc ?_ _)); refine blk_put (cs := #[.string t221, .int .i64 x208001_30, .string x208002_30, .string x208003_30, .bool x208004_30]) ?_ 1 _ rfl; (with_reducible repeat (first | refine blk_drewN ?_ _ | refine blk_drew ?_ | refine blk_alloc ?_ _)); refine blk_put (cs := #[.string x208000_30, .int .i64 x208001_30, .string x208002_30, .string x208003_30, .bool x208004_30]) ?_ 0 _ rfl; (with_reducible repeat (first | refine blk_drewN ?_ _ | refine blk_drew ?_ | refine blk_alloc ?_ _)); exact BK207.out) Tryz.underlying24 rfl (by kernel_rfl)) rfl ?_
              exact ⟨z4, z12⟩
             ·replace c56 := Bool.eq_false_iff.mpr c56
              subst c56
              rw [if_neg Bool.false_ne_true] at H
              simp only [Option.some.injEq, Prod.mk.injEq] at H
              obtain ⟨rfl, rfl, rfl, rfl, rfl, rfl⟩ := H
              have hnb64 := NB220_207.out
              have hnc64 := NB207_220.out
              have hcz65_0 : wc.cell? ⟨gb220, 0, none⟩ = some (.string t221) := (blk_cell BK220.out 0).trans rfl
              have hcz65_1 : wc.cell? ⟨gb220, 1, none⟩ = some (.int .i64 x221001_30) := (blk_cell BK220.out 1).trans rfl
              have hcz65_2 : wc.cell? ⟨gb220, 2, none⟩ = some (.string x221002_47) := (blk_cell BK220.out 2).trans rfl
              have hcz65_3 : wc.cell? ⟨gb220, 3, none⟩ = some (.string t218) := (blk_cell BK220.out 3).trans rfl
              have hcz65_4 : wc.cell? ⟨gb220, 4, none⟩ = some (.bool t219) := (blk_cell BK220.out 4).trans rfl
              have hfz65_0 := blk_frozen BK220.out 0
              have hfz65_1 := blk_frozen BK220.out 1
              have hfz65_2 := blk_frozen BK220.out 2
              have hfz65_3 := blk_frozen BK220.out 3
              have hfz65_4 := blk_frozen BK220.out 4
              go_wp2_with (first | ((with_reducible refine gate_callee (f := 38) rfl ?_); refine goesQ_ 77 Tryz.func38 #[.string x221002_47] ?_; (with_reducible refine (impl_CleanPath.calls kj47 x221002_47 t224 _ ?side1 A54.out).mono ?_); (case side1 => exact Gl.below HG.out z12); rintro e w66 ⟨rfl, hb⟩; refine ⟨_, rfl, ?_⟩; replace BK207 := Aside0.mk (blk_below (g := gb207) (o := .cells #[.string x208000_30, .int .i64 x208001_30, .string x208002_30, .string x208003_30, .bool x208004_30] 24 (0, 0)) z19 hb); replace BK220 := Aside0.mk (blk_below (g := gb220) (o := .cells #[.string t221, .int .i64 x221001_30, .string x221002_47, .string t218, .bool t219] 24 (0, 0)) z76 hb); replace HB := Aside0.mk (below_step z12 hb); (try clear hb); obtain ⟨hcz67_0, hcz67_1, hcz67_2, hcz67_3, hcz67_4, hfz67_0, hfz67_1, hfz67_2, hfz67_3, hfz67_4⟩ := cells5_ BK220.out) | ((with_reducible refine gate_callee (f := 23) rfl ?_); refine goesQ_ 80 Tryz.func23 #[.agg #[.string t221, .int .i64 x221001_30, .string t224, .string t218, .bool t219]] ?_; (with_reducible refine (impl_UrlOk.calls kj47 t221 x221001_30 t224 t218 t219 false _ ?side1 A55.out).mono ?_); (case side1 => exact Gl.below HG.out z12); rintro e w68 ⟨rfl, hb⟩; refine ⟨_, rfl, ?_⟩; replace BK207 := Aside0.mk (blk_below (g := gb207) (o := .cells #[.string x208000_30, .int .i64 x208001_30, .string x208002_30, .string x208003_30, .bool x208004_30] 24 (0, 0)) z38 hb); replace BK220 := Aside0.mk (blk_below (g := gb220) (o := .cells #[.string t221, .int .i64 x221001_30, .string t224, .string t218, .bool t219] 24 (0, 0)) z61 hb); replace HB := Aside0.mk (below_step z12 hb); (try clear hb); obtain ⟨hcz69_0, hcz69_1, hcz69_2, hcz69_3, hcz69_4, hfz69_0, hfz69_1, hfz69_2, hfz69_3, hfz69_4⟩ := cells5_ BK207.out))
              refine bodyPost_ret (results_ct rfl _ _ gb207 24 #[.string (⟨#[]⟩ : ByteArray), .int .i64 0, .string (⟨#[]⟩ : ByteArray), .string (⟨#[]⟩ : ByteArray), .bool false] (0, 0) _ rfl (by (with_reducible repeat (first | refine blk_drewN ?_ _ | refine blk_drew ?_ | refine blk_alloc ?_ _)); refine blk_put (cs := #[.string (⟨#[]⟩ : ByteArray), .int .i64 0, .string (⟨#[]⟩ : ByteArray), .string (⟨#[]⟩ : ByteArray), .bool x208004_30]) ?_ 4 _ rfl; (with_reducible repeat (first | refine blk_drewN ?_ _ | refine blk_drew ?_ | refine blk_alloc ?_ _)); refine blk_put (cs := #[.string (⟨#[]⟩ : ByteArray), .int .i64 0, .string (⟨#[]⟩ : ByteArray), .string x208003_30, .bool x208004_30]) ?_ 3 _ rfl; (with_reducible repeat (first | refine blk_drewN ?_ _ | refine blk_drew ?_ | refine blk_alloc ?_ _)); refine blk_put (cs := #[.string (⟨#[]⟩ : ByteArray), .int .i64 0, .string x208002_30, .string x208003_30, .bool x208004_30]) ?_ 2 _ rfl; (with_reducible repeat (first | refine blk_drewN ?_ _ | refine blk_drew ?_ | refine blk_alloc ?_ _)); refine blk_put (cs := #[.string (⟨#[]⟩ : ByteArray), .int .i64 x208001_30, .string x208002_30, .string x208003_30, .bool x208004_30]) ?_ 1 _ rfl; (with_reducible repeat (first | refine blk_drewN ?_ _ | refine blk_drew ?_ | refine blk_alloc ?_ _)); refine blk_put (cs := #[.string x208000_30, .int .i64 x208001_30, .string x208002_30, .string x208003_30, .bool x208004_30]) ?_ 0 _ rfl; (with_reducible repeat (first | refine blk_drewN ?_ _ | refine blk_drew ?_ | refine blk_alloc ?_ _)); exact BK207.out) Tryz.underlying24 rfl (by kernel_rfl)) rfl ?_
              exact ⟨z4, z12⟩
        ·rw [if_neg c25] at H
         exact absurd H (by simp)
       ·rw [if_neg c24] at H
        exact absurd H (by simp)
    ·rw [if_neg c19] at H
     exact absurd H (by simp)

end Go.Proofs.YtkkolioolgpljaaGreatDoor.GFnCanons
