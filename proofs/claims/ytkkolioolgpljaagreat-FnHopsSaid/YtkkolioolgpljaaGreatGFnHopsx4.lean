-- Laid by gen.py of this session (over the kit's printing program): what the law FnHops reaches, as Lean functions, and that Go comes to just that.
import Derived.Test.YtkkolioolgpljaaGreatGFnHopsx0
import Derived.Test.YtkkolioolgpljaaGreatGFnHopsx2
import Derived.Test.YtkkolioolgpljaaGreatGFnHopsx3
import Derived.Test.YtkkolioolgpljaaGreatZFnHops
namespace Go.Proofs.YtkkolioolgpljaaGreat.GFnHops
open Go.RowKit Go.Proofs.YtkkolioolgpljaaGreatW.PrintWords Go.Proofs.YtkkolioolgpljaaGreatW.PrintLast Go.Proofs.YtkkolioolgpljaaGreatW.PrintMore Go.Proofs.YtkkolioolgpljaaGreatW.Zs
attribute [local go_sem] max2_int min2_int max_two min_two max_three min_three max_four min_four   -- for this text's walks alone
set_option linter.unusedVariables false
set_option linter.unusedSimpArgs false

/-! ### spec_l5bent: function 10 -/
def spec_l5bent.j0 : Nat → List (S30) → Bool → List Int → Int → Int → Option ((List (S30)) × Int × Int)
 | 0, _, _, _, _, _ => none
 | k + 1, x3, x13, x1000, x1001, x1002 => if x13 = true then ((spec_l1Below.f x1000 x1001 x1002 (x3.length : Int)).bind fun bt187 => ((spec_l1Below.f x1000 bt187.2.1 bt187.2.2 3).bind fun bt190 => (if bt190.1 = 0 then (if 0 ≤ bt187.1 then (if bt187.1 < (x3.length : Int) then ((spec_l1bend.f x1000 bt190.2.1 bt190.2.2 ((rd_T30 x3 bt187.1).f0)).bind fun bt194 => (some ((x3.set (bt187.1 : Int).toNat (⟨bt194.1, (rd_T30 x3 bt187.1).f1⟩ : S30)), bt194.2.1, bt194.2.2))) else (none)) else (none)) else (if bt190.1 = 1 then (if 0 ≤ bt187.1 then (if bt187.1 < (x3.length : Int) then (if 1 + ((rd_T30 x3 bt187.1).f1).size ≤ 9223372036854775807 then (some ((x3.set (bt187.1 : Int).toNat (⟨(rd_T30 x3 bt187.1).f0, (⟨#[32]⟩ : ByteArray) ++ ((rd_T30 x3 bt187.1).f1)⟩ : S30)), bt190.2.1, bt190.2.2)) else (none)) else (none)) else (none)) else (if 0 ≤ bt187.1 then (if bt187.1 < (x3.length : Int) then ((spec_l1bend.f x1000 bt190.2.1 bt190.2.2 ((rd_T30 x3 bt187.1).f1)).bind fun bt201 => (some ((x3.set (bt187.1 : Int).toNat (⟨(rd_T30 x3 bt187.1).f0, bt201.1⟩ : S30)), bt201.2.1, bt201.2.2))) else (none)) else (none)))))) else (some (x3, x1001, x1002))
def spec_l5bent.f (k : Nat) (s0_0 : List Int) (s0_1 : Int) (s0_2 : Int) : Option ((List (S30)) × Int × Int) := (spec_l5list.f k s0_0 s0_1 s0_2).bind fun bt179 => ((spec_l1Once.f s0_0 bt179.2.1 bt179.2.2 8).bind fun bt184 => (if bt184.1 = true then (spec_l5bent.j0 k bt179.1 (decide ((bt179.1.length : Int) > 0)) s0_0 bt184.2.1 bt184.2.2) else (spec_l5bent.j0 k bt179.1 false s0_0 bt184.2.1 bt184.2.2)))
theorem spec_l5bent.mono_l : ∀ k, (∀ y0 y1 y2 y3 y4, LeO (spec_l5bent.j0 k y0 y1 y2 y3 y4) (spec_l5bent.j0 (k + 1) y0 y1 y2 y3 y4))
 | 0 => fun _ _ _ _ _ r h => by simp [spec_l5bent.j0] at h
 | k + 1 => by
  have ih0 := spec_l5bent.mono_l k
  ·intro y0 y1 y2 y3 y4; unfold spec_l5bent.j0
   repeat' first | (with_reducible first | exact ih0 _ _ _ _ _ | exact spec_l5list.mono _ _ _ _ | exact LeO.refl _ | exact LeO.none _ | refine LeO.ite ?_ ?_ | refine LeO.bind ?_ (fun _ => ?_)) | exact ih0 _ _ _ _ _ | exact spec_l5list.mono _ _ _ _ | exact LeO.none _ | refine LeO.ite ?_ ?_ | refine LeO.bind ?_ (fun _ => ?_)
theorem spec_l5bent.mono : ∀ a0 a1 a2 k, LeO (spec_l5bent.f k a0 a1 a2) (spec_l5bent.f (k + 1) a0 a1 a2) := by
 intro a0 a1 a2 k; have ih0 := spec_l5bent.mono_l k; unfold spec_l5bent.f
 repeat' first | (with_reducible first | exact ih0 _ _ _ _ _ | exact spec_l5list.mono _ _ _ _ | exact LeO.refl _ | exact LeO.none _ | refine LeO.ite ?_ ?_ | refine LeO.bind ?_ (fun _ => ?_)) | exact ih0 _ _ _ _ _ | exact spec_l5list.mono _ _ _ _ | exact LeO.none _ | refine LeO.ite ?_ ?_ | refine LeO.bind ?_ (fun _ => ?_)
set_option maxHeartbeats 40000000 in
set_option maxRecDepth 100000 in
theorem spec_l5bent.calls (k : Nat) (g : Nat) (s0_0 : List Int) (s0_1 : Int) (s0_2 : Int) (r1 : List (S30)) (r2 : Int) (r3 : Int) (w0 w : World) (hI : IsS52 w0 w g s0_0 s0_1 s0_2) (hB : Below w0.heap.size w0 w) (h : spec_l5bent.f k s0_0 s0_1 s0_2 = some (r1, r2, r3)) :
  Calls Tryz.prog 10 #[.pointer (some ⟨g, 0, none⟩)] w fun e w' => ∃ v0_ : Value, e = .returned (v0_) ∧ Kd.R k30 30 w' w.heap.size (fun _ => True) v0_ r1 ∧ IsS52 w0 w' g s0_0 r2 r3 ∧ Below w0.heap.size w0 w' ∧ KeepBut w w' g none := by
 have HI0 := Aside0.mk hI; have HK := Aside0.mk (KeepBut.refl w g none); have HL := Aside0.mk hB.size; clear hI; have HW0 := Aside0.mk hB.size; have HB := Aside0.mk hB; clear hB; have H : ((spec_l5list.f k s0_0 s0_1 s0_2).bind fun bt179 => ((spec_l1Once.f s0_0 bt179.2.1 bt179.2.2 8).bind fun bt184 => (if bt184.1 = true then (spec_l5bent.j0 k bt179.1 (decide ((bt179.1.length : Int) > 0)) s0_0 bt184.2.1 bt184.2.2) else (spec_l5bent.j0 k bt179.1 false s0_0 bt184.2.1 bt184.2.2)))) = some (r1, r2, r3) := h; clear h; replace H := Option.bind_eq_some_iff.mp H; obtain ⟨⟨t179, t182, t183⟩, A20, H⟩ := H; (try dsimp only at H); have A2 := Aside0.mk A20; clear A20; have HC3 := Aside0.mk H; clear H; go_enter Tryz.func10, Tryz.ntmps10
 go_upto_region 2 with (first | ((with_reducible refine gate_callee (f := 24) rfl ?_); refine goesQ_ 6 Tryz.func24 #[.pointer (some ⟨g, 0, none⟩)] ?_; (with_reducible refine (spec_l5list.calls k g s0_0 s0_1 s0_2 t179 t182 t183 w0 _ ?side1 ?side2 A2.out).mono ?_); (case side1 => repeat (first | (with_reducible first | exact HI0.out | apply IsS52.alloc | apply IsS52.drewN | apply IsS52.drew | apply IsS52.set_1 | apply IsS52.set_2) | exact HI0.out)); (case side2 => repeat (first | (with_reducible first | exact HB.out | apply below_alloc | apply pw_below_drewN | apply below_drew1 | refine below_set ?_ (IsS52.ge HI0.out)) | exact HB.out)); rintro e w4 ⟨v180, rfl, ho0, hi, hb, hk⟩; refine ⟨_, rfl, ?_⟩; have HO181 := Aside0.mk (Kd.R_lower ho0 (keep_size (w := w) (g := g) (row := none) zz1)); replace HK := Aside0.mk (KeepBut.trans zz1 hk (.inl rfl)); replace HB := Aside0.mk (hb); replace HI0 := Aside0.mk (hi); (try clear hb); (try clear hk); (try clear hi); (try clear ho0)))
 (try simp only [Act.put, List.setIfInBounds_toArray, List.set_cons_zero, List.set_cons_succ]); go_cut [13] (fun v13 wc => ∃ (kq : Nat) (x13_2 : Bool) (x1001_2 : Int) (x1002_2 : Int), v13 = .bool x13_2 ∧ Aside0 (spec_l5bent.j0 kq t179 x13_2 s0_0 x1001_2 x1002_2 = some (r1, r2, r3)) ∧ Aside0 (kq ≤ k) ∧ Aside0 (Kd.R k30 30 wc w.heap.size (fun _ => True) v180 t179) ∧ Aside0 (IsS52 w0 wc g s0_0 x1001_2 x1002_2) ∧ Aside0 (KeepBut w wc g none) ∧ Aside0 (Below w0.heap.size w0 wc))
 case first =>
  have H := HC3.out; clear HC3; replace H := Option.bind_eq_some_iff.mp H; obtain ⟨⟨t184, t185, t186⟩, A50, H⟩ := H; (try dsimp only at H); have A5 := Aside0.mk A50; clear A50; have HC6 := Aside0.mk H; clear H
  repeat' (first | (go_big_may; (first | ((with_reducible refine gate_callee (f := 25) rfl ?_); refine goesQ_ 8 Tryz.func25 #[.pointer (some ⟨g, 0, none⟩), .int .i64 8] ?_; (with_reducible refine (spec_l1Once.calls g s0_0 t182 t183 8 t184 t185 t186 w0 _ ?side1 ?side2 A5.out).mono ?_); (case side1 => repeat (first | (with_reducible first | exact HI0.out | apply IsS52.alloc | apply IsS52.drewN | apply IsS52.drew | apply IsS52.set_1 | apply IsS52.set_2) | exact HI0.out)); (case side2 => repeat (first | (with_reducible first | exact HB.out | apply below_alloc | apply pw_below_drewN | apply below_drew1 | refine below_set ?_ (IsS52.ge HI0.out)) | exact HB.out)); rintro e w7 ⟨rfl, hi, hb, hk⟩; refine ⟨_, rfl, ?_⟩; replace HO181 := Aside0.mk (Kd.R_mono (Kd.R_keep (IsS52.apart (show IsS52 w0 _ g s0_0 t182 t183 from zz2) zz38 (by decide)) hk (fun _ h => h.2)) (fun _ h => h.1)); replace HK := Aside0.mk (KeepBut.trans zz1 hk (.inl rfl)); replace HB := Aside0.mk (hb); replace HI0 := Aside0.mk (hi); (try clear hb); (try clear hk); (try clear hi)))) | go_values | go_skip | go_big_skip | go_big_want | ((first | (with_reducible refine gate_nog rfl ?_) | (fail_if_success with_reducible refine gate_any ?_)); go_step) | go_upon | simp only [Bool.not_true, Bool.not_false, Bool.true_and, Bool.false_and, Bool.true_or, Bool.false_or] | dsimp only)
  (try simp only [Act.put, List.setIfInBounds_toArray, List.set_cons_zero, List.set_cons_succ]); have H := HC6.out; clear HC6
  by_cases c8 : t184 = true
  ·subst c8; rw [if_pos rfl] at H; have H' := Aside0.mk H; clear H; obtain ⟨Ao9, co9, eo9⟩ := Kd.R_slice HO181.out; subst eo9; go_wp2
   go_meet
   case rel => exact ⟨_, (decide ((t179.length : Int) > 0)), (t185), (t186), zz3, H', ⟨by first | omega | exact Nat.le_refl _⟩, ⟨zz38⟩, ⟨zz2⟩, ⟨zz1⟩, ⟨zz5⟩⟩
  ·replace c8 := Bool.eq_false_iff.mpr c8; subst c8; rw [if_neg Bool.false_ne_true] at H; have H' := Aside0.mk H; clear H; go_wp2
   go_meet
   case rel => exact ⟨_, (false), (t185), (t186), zz3, H', ⟨by first | omega | exact Nat.le_refl _⟩, ⟨zz38⟩, ⟨zz2⟩, ⟨zz1⟩, ⟨zz5⟩⟩
 case rest =>
  clear HC3; (try clear c1); (try clear c2); (try clear p2); (try clear c8); obtain ⟨kq, x13_2, x1001_2, x1002_2, rfl, HA, HJ2, HO_3, HI0, HK, HB⟩ := hcut
  cases kq with
  | zero => exact absurd HA.out (by simp [spec_l5bent.j0])
  | succ kj2 =>
   have H := HA.out; clear HA; simp only [spec_l5bent.j0] at H
   by_cases c10 : x13_2 = true
   ·subst c10; rw [if_pos rfl] at H; replace H := Option.bind_eq_some_iff.mp H; obtain ⟨⟨t187, t188, t189⟩, A110, H⟩ := H; (try dsimp only at H); have A11 := Aside0.mk A110; clear A110; replace H := Option.bind_eq_some_iff.mp H; obtain ⟨⟨t190, t191, t192⟩, A120, H⟩ := H; (try dsimp only at H); have A12 := Aside0.mk A120; clear A120; have HC13 := Aside0.mk H; clear H; obtain ⟨Ao14, co14, eo14⟩ := Kd.R_slice HO_3.out; subst eo14; go_upto_if 31 with (first | ((with_reducible refine gate_callee (f := 26) rfl ?_); refine goesQ_ 17 Tryz.func26 #[.pointer (some ⟨g, 0, none⟩), .int .i64 (t179.length : Int)] ?_; (with_reducible refine (spec_l1Below.calls g s0_0 x1001_2 x1002_2 (t179.length : Int) t187 t188 t189 w0 _ ?side1 ?side2 A11.out).mono ?_); (case side1 => repeat (first | (with_reducible first | exact HI0.out | apply IsS52.alloc | apply IsS52.drewN | apply IsS52.drew | apply IsS52.set_1 | apply IsS52.set_2) | exact HI0.out)); (case side2 => repeat (first | (with_reducible first | exact HB.out | apply below_alloc | apply pw_below_drewN | apply below_drew1 | refine below_set ?_ (IsS52.ge HI0.out)) | exact HB.out)); rintro e w15 ⟨rfl, hi, hb, hk⟩; refine ⟨_, rfl, ?_⟩; replace HO_3 := Aside0.mk (Kd.R_mono (Kd.R_keep (IsS52.apart (show IsS52 w0 _ g s0_0 x1001_2 x1002_2 from zz2) zz7 (by decide)) hk (fun _ h => h.2)) (fun _ h => h.1)); replace HK := Aside0.mk (KeepBut.trans zz1 hk (.inl rfl)); replace HB := Aside0.mk (hb); replace HI0 := Aside0.mk (hi); (try clear hb); (try clear hk); (try clear hi)) | ((with_reducible refine gate_callee (f := 26) rfl ?_); refine goesQ_ 19 Tryz.func26 #[.pointer (some ⟨g, 0, none⟩), .int .i64 3] ?_; (with_reducible refine (spec_l1Below.calls g s0_0 t188 t189 3 t190 t191 t192 w0 _ ?side1 ?side2 A12.out).mono ?_); (case side1 => repeat (first | (with_reducible first | exact HI0.out | apply IsS52.alloc | apply IsS52.drewN | apply IsS52.drew | apply IsS52.set_1 | apply IsS52.set_2) | exact HI0.out)); (case side2 => repeat (first | (with_reducible first | exact HB.out | apply below_alloc | apply pw_below_drewN | apply below_drew1 | refine below_set ?_ (IsS52.ge HI0.out)) | exact HB.out)); rintro e w16 ⟨rfl, hi, hb, hk⟩; refine ⟨_, rfl, ?_⟩; replace HO_3 := Aside0.mk (Kd.R_mono (Kd.R_keep (IsS52.apart (show IsS52 w0 _ g s0_0 t188 t189 from zz2) zz7 (by decide)) hk (fun _ h => h.2)) (fun _ h => h.1)); replace HK := Aside0.mk (KeepBut.trans zz1 hk (.inl rfl)); replace HB := Aside0.mk (hb); replace HI0 := Aside0.mk (hi); (try clear hb); (try clear hk); (try clear hi)))
    (try simp only [Act.put, List.setIfInBounds_toArray, List.set_cons_zero, List.set_cons_succ]); have H := HC13.out; clear HC13
    by_cases c17 : t190 = 0
    ·rw [if_pos c17] at H; have c17b0 : (t190 == 0) = true := beq_iff_eq.mpr c17; have c17b1 : (t190 != 0) = false := bne_eq_false_iff_eq.mpr c17; clear c17; (first | rw [c17b0] | (simp only [i64_w, i32_w]; rw [c17b0]) | rw [c17b1] | skip)
     by_cases c18 : 0 ≤ t187
     ·rw [if_pos c18] at H; have c18b0 : decide (0 ≤ t187) = true := decide_eq_true c18; clear c18
      by_cases c19 : t187 < (t179.length : Int)
      ·rw [if_pos c19] at H; have c19b0 : decide (t187 < (t179.length : Int)) = true := decide_eq_true c19; clear c19; replace H := Option.bind_eq_some_iff.mp H; obtain ⟨⟨t194, t195, t196⟩, A200, H⟩ := H; (try dsimp only at H); have A20 := Aside0.mk A200; clear A200; obtain ⟨y197, hy197⟩ : ∃ y_ : List (S30), y_ = (t179.set (t187 : Int).toNat (⟨t194, (rd_T30 t179 t187).f1⟩ : S30)) := ⟨_, rfl⟩; replace H : (some (y197, t195, t196)) = some (r1, r2, r3) := by first | (rw [hy197]; with_reducible exact H) | (have H2_ := (Option.bind_some _ _).symm.trans H; rw [hy197]; with_reducible exact H2_) | (have H2_ := (Option.bind_some _ _).symm.trans H; with_reducible exact H2_) | with_reducible exact H | (rw [hy197]; exact H) | exact H
       have Ny197 := Aside0.mk hy197; clear hy197; simp only [Option.some.injEq, Prod.mk.injEq] at H; obtain ⟨rfl, rfl, rfl⟩ := H; have p193 : 0 ≤ (t187 : Int) := of_decide_eq_true zz6; have q193 : t187 < (t179.length : Int) := of_decide_eq_true zz6; obtain ⟨ad193, e193, hx193_0, hx193_1⟩ := at_T30 (Kd.R_reads' HO_3.out).2.2 t187 p193 q193; cases e193; replace p193 := eq_true p193; replace q193 := eq_true q193; go_wp2_with (first | ((with_reducible refine gate_callee (f := 27) rfl ?_); refine goesQ_ 41 Tryz.func27 #[.pointer (some ⟨g, 0, none⟩), .string ((rd_T30 t179 t187).f0)] ?_; (with_reducible refine (spec_l1bend.calls g s0_0 t191 t192 ((rd_T30 t179 t187).f0) t194 t195 t196 w0 _ ?side1 ?side2 A20.out).mono ?_); (case side1 => repeat (first | (with_reducible first | exact HI0.out | apply IsS52.alloc | apply IsS52.drewN | apply IsS52.drew | apply IsS52.set_1 | apply IsS52.set_2) | exact HI0.out)); (case side2 => repeat (first | (with_reducible first | exact HB.out | apply below_alloc | apply pw_below_drewN | apply below_drew1 | refine below_set ?_ (IsS52.ge HI0.out)) | exact HB.out)); rintro e w22 ⟨rfl, hi, hb, hk⟩; refine ⟨_, rfl, ?_⟩; replace HO_3 := Aside0.mk (Kd.R_mono (Kd.R_keep (IsS52.apart (show IsS52 w0 _ g s0_0 t191 t192 from zz2) zz7 (by decide)) hk (fun _ h => h.2)) (fun _ h => h.1)); replace HK := Aside0.mk (KeepBut.trans zz1 hk (.inl rfl)); replace HB := Aside0.mk (hb); replace HI0 := Aside0.mk (hi); (try clear hb); (try clear hk); (try clear hi); have p21 : 0 ≤ (t187 : Int) := of_decide_eq_true zz6; have q21 : (t187 : Int) < ((t179.length : Int) : Int) := of_decide_eq_true zz6; obtain ⟨go21, co21, eo21, gb21, gl21, cl21, HG21⟩ := Kd.R_form HO_3.out (by omega); (first | cases eo21 | (injection eo21 with ea_ en_ ec_; (first | subst ea_ | (injection ea_ with ea_; subst ea_)); subst ec_; clear en_)); have GB21 := Aside0.mk gb21; have GG21 := Aside0.mk HG21; clear gb21 gl21 HG21; (first | simp only [add_plain] at hx193_0 | skip); (first | simp only [add_plain] at hx193_1 | skip); obtain ⟨ce21, hcl21, hM21, hcc21, hfr21⟩ := Kd.R_elem HO_3.out z30 (t187 : Int) p21 q21; obtain rfl := k30_openM hM21; have hx21_0 : w22.cell? ⟨go21, (t187 : Int).toNat * 2, none⟩ = some (.string ((rd_T30 t179 t187).f0)) := hcc21 0 _ rfl; have hx21_1 : w22.cell? ⟨go21, (t187 : Int).toNat * 2 + 1, none⟩ = some (.string ((rd_T30 t179 t187).f1)) := hcc21 1 _ rfl; have hf21_0 : w22.frozen? ⟨go21, (t187 : Int).toNat * 2, none⟩ = false := hfr21 0; have hf21_1 : w22.frozen? ⟨go21, (t187 : Int).toNat * 2 + 1, none⟩ = false := hfr21 1; clear hcl21 hcc21 hfr21 hM21; replace p21 := eq_true p21; replace q21 := eq_true q21; have HX23 := Aside0.mk (show Kd.R k30 30 w22 w.heap.size (fun _ => True) (.slice (some ⟨go21, 0, none⟩) t179.length co14) t179 from zz7); obtain ⟨ce23, hcl23, hM23, hcc23, hfr23⟩ := Kd.R_elem HX23.out z30 (t187 : Int) (of_decide_eq_true zz6) (by have h_ : (t187 : Int) < ((t179.length : Int) : Int) := of_decide_eq_true zz6; first | exact h_ | (have e_ := (Kd.R_reads' HO_3.out).1; omega) | simpa using h_); obtain rfl := k30_openM hM23; have HP23 := Kd.R_seg HX23.out (t187 : Int) (of_decide_eq_true zz6) (by have h_ : (t187 : Int) < ((t179.length : Int) : Int) := of_decide_eq_true zz6; first | exact h_ | (have e_ := (Kd.R_reads' HO_3.out).1; omega) | simpa using h_) (seg := [.string t194]) (j := 0) hcl23 hcc23 (show 1 ≤ 2 from by decide) (x' := (⟨t194, (rd_T30 t179 t187).f1⟩ : S30)) (k30_mkM _ _ _ (⟨t194, (rd_T30 t179 t187).f1⟩ : S30) ) (fun _ hk => hk); have hx23_0 := hcc23 0 _ rfl; (try simp only [show (k30).sz = 2 from rfl, Nat.mul_one, Nat.add_zero] at hx23_0); have hf23_0 := hfr23 0; (try simp only [show (k30).sz = 2 from rfl, Nat.mul_one, Nat.add_zero] at hf23_0); clear hcl23 hcc23 hfr23 hM23) | ((with_reducible refine gate_store (t := 9) (p := 43) rfl ?_); refine store_event (t := 9) (p := 43) (v := ?vo_w24) (w1 := (w22.setCell ⟨go21, (t187 : Int).toNat * 2, none⟩ (.string t194))) ?hg ?ho ?hn ?hr ?_; (case ho => rfl); (case hg => rfl); (case hn => rfl); (case hr => first | (go_simp; done) | (go_simp; rfl)); intro w24 hw; have hg : w22.grownBy w24 (some go21) := (by rw [hw]; exact HP23.2); have hp_ : Kd.R k30 30 w24 w.heap.size (fun _ => True) (.slice (some ⟨go21, 0, none⟩) t179.length co14) y197 := (by rw [hw, Ny197.out]; exact HP23.1); clear HP23; replace HI0 := Aside0.mk (IsS52.grown zz2 hg (IsS52.own_ne HI0.out HO_3.out (by decide))); replace HB := Aside0.mk ((by rw [hw]; exact below_set (HB.out) (Nat.le_trans HL.out GB21.out) : Below w0.heap.size w0 w24)); replace HK := Aside0.mk (KeepBut.trans zz1 (KeepBut.of_grown hg g) (Kd.R_base2 HO_3.out)); replace HO_3 := Aside0.mk (hp_); clear hg hw hp_))
       go_ret; exact ⟨_, zz4, zz7, zz2, zz5, zz1⟩
      ·rw [if_neg c19] at H; exact absurd H (by simp)
     ·rw [if_neg c18] at H; exact absurd H (by simp)
    ·rw [if_neg c17] at H; have c17b0 : (t190 == 0) = false := beq_eq_false_iff_ne.mpr c17; have c17b1 : (t190 != 0) = true := bne_iff_ne.mpr c17; (first | rw [c17b0] | (simp only [i64_w, i32_w]; rw [c17b0]) | rw [c17b1] | skip)
     by_cases c25 : t190 = 1
     ·rw [if_pos c25] at H; have c25b0 : (t190 == 1) = true := beq_iff_eq.mpr c25; have c25b1 : (t190 != 1) = false := bne_eq_false_iff_eq.mpr c25; clear c25
      by_cases c26 : 0 ≤ t187
      ·rw [if_pos c26] at H; have c26b0 : decide (0 ≤ t187) = true := decide_eq_true c26; clear c26
       by_cases c27 : t187 < (t179.length : Int)
       ·rw [if_pos c27] at H; have c27b0 : decide (t187 < (t179.length : Int)) = true := decide_eq_true c27; clear c27
        by_cases c28 : 1 + ((rd_T30 t179 t187).f1).size ≤ 9223372036854775807
        ·rw [if_pos c28] at H; have c28b0 := eq_true c28; have c28b1 : decide (1 + ((rd_T30 t179 t187).f1).size ≤ 9223372036854775807) = true := decide_eq_true c28; (try have c28b2 : (9223372036854775807 < 1 + ((rd_T30 t179 t187).f1).size) = False := eq_false (Nat.not_lt.2 c28)); obtain ⟨y199, hy199⟩ : ∃ y_ : List (S30), y_ = (t179.set (t187 : Int).toNat (⟨(rd_T30 t179 t187).f0, (⟨#[32]⟩ : ByteArray) ++ ((rd_T30 t179 t187).f1)⟩ : S30)) := ⟨_, rfl⟩; replace H : (some (y199, t191, t192)) = some (r1, r2, r3) := by first | (rw [hy199]; with_reducible exact H) | (have H2_ := (Option.bind_some _ _).symm.trans H; rw [hy199]; with_reducible exact H2_) | (have H2_ := (Option.bind_some _ _).symm.trans H; with_reducible exact H2_) | with_reducible exact H | (rw [hy199]; exact H) | exact H
         have Ny199 := Aside0.mk hy199; clear hy199; simp only [Option.some.injEq, Prod.mk.injEq] at H; obtain ⟨rfl, rfl, rfl⟩ := H; have p198 : 0 ≤ (t187 : Int) := of_decide_eq_true zz6; have q198 : t187 < (t179.length : Int) := of_decide_eq_true zz6; obtain ⟨ad198, e198, hx198_0, hx198_1⟩ := at_T30 (Kd.R_reads' HO_3.out).2.2 t187 p198 q198; cases e198; replace p198 := eq_true p198; replace q198 := eq_true q198; have p29 : 0 ≤ (t187 : Int) := of_decide_eq_true zz6; have q29 : (t187 : Int) < ((t179.length : Int) : Int) := of_decide_eq_true zz6; obtain ⟨go29, co29, eo29, gb29, gl29, cl29, HG29⟩ := Kd.R_form HO_3.out (by omega); (first | cases eo29 | (injection eo29 with ea_ en_ ec_; (first | subst ea_ | (injection ea_ with ea_; subst ea_)); subst ec_; clear en_)); have GB29 := Aside0.mk gb29; have GG29 := Aside0.mk HG29; clear gb29 gl29 HG29; (first | simp only [add_plain] at hx198_0 | skip); (first | simp only [add_plain] at hx198_1 | skip); obtain ⟨ce29, hcl29, hM29, hcc29, hfr29⟩ := Kd.R_elem HO_3.out z30 (t187 : Int) p29 q29; obtain rfl := k30_openM hM29; have hx29_0 : w16.cell? ⟨go29, (t187 : Int).toNat * 2, none⟩ = some (.string ((rd_T30 t179 t187).f0)) := hcc29 0 _ rfl; have hx29_1 : w16.cell? ⟨go29, (t187 : Int).toNat * 2 + 1, none⟩ = some (.string ((rd_T30 t179 t187).f1)) := hcc29 1 _ rfl; have hf29_0 : w16.frozen? ⟨go29, (t187 : Int).toNat * 2, none⟩ = false := hfr29 0; have hf29_1 : w16.frozen? ⟨go29, (t187 : Int).toNat * 2 + 1, none⟩ = false := hfr29 1; clear hcl29 hcc29 hfr29 hM29; replace p29 := eq_true p29; replace q29 := eq_true q29; have HX30 := Aside0.mk (show Kd.R k30 30 w16 w.heap.size (fun _ => True) (.slice (some ⟨go29, 0, none⟩) t179.length co14) t179 from zz7); obtain ⟨ce30, hcl30, hM30, hcc30, hfr30⟩ := Kd.R_elem HX30.out z30 (t187 : Int) (of_decide_eq_true zz6) (by have h_ : (t187 : Int) < ((t179.length : Int) : Int) := of_decide_eq_true zz6; first | exact h_ | (have e_ := (Kd.R_reads' HO_3.out).1; omega) | simpa using h_); obtain rfl := k30_openM hM30; have HP30 := Kd.R_seg HX30.out (t187 : Int) (of_decide_eq_true zz6) (by have h_ : (t187 : Int) < ((t179.length : Int) : Int) := of_decide_eq_true zz6; first | exact h_ | (have e_ := (Kd.R_reads' HO_3.out).1; omega) | simpa using h_) (seg := [.string ((⟨#[32]⟩ : ByteArray) ++ ((rd_T30 t179 t187).f1))]) (j := 1) hcl30 hcc30 (show 2 ≤ 2 from by decide) (x' := (⟨(rd_T30 t179 t187).f0, (⟨#[32]⟩ : ByteArray) ++ ((rd_T30 t179 t187).f1)⟩ : S30)) (k30_mkM _ _ _ (⟨(rd_T30 t179 t187).f0, (⟨#[32]⟩ : ByteArray) ++ ((rd_T30 t179 t187).f1)⟩ : S30) ) (fun _ hk => hk); have hx30_1 := hcc30 1 _ rfl; (try simp only [show (k30).sz = 2 from rfl, Nat.mul_one, Nat.add_zero] at hx30_1); have hf30_1 := hfr30 1; (try simp only [show (k30).sz = 2 from rfl, Nat.mul_one, Nat.add_zero] at hf30_1); clear hcl30 hcc30 hfr30 hM30; go_wp2_with (first | ((with_reducible refine gate_store (t := 9) (p := 55) rfl ?_); refine store_event (t := 9) (p := 55) (v := ?vo_w31) (w1 := (w16.setCell ⟨go29, (t187 : Int).toNat * 2 + 1, none⟩ (.string ((⟨#[32]⟩ : ByteArray) ++ ((rd_T30 t179 t187).f1))))) ?hg ?ho ?hn ?hr ?_; (case ho => rfl); (case hg => rfl); (case hn => rfl); (case hr => first | (go_simp; done) | (go_simp; rfl)); intro w31 hw; have hg : w16.grownBy w31 (some go29) := (by rw [hw]; exact HP30.2); have hp_ : Kd.R k30 30 w31 w.heap.size (fun _ => True) (.slice (some ⟨go29, 0, none⟩) t179.length co14) y199 := (by rw [hw, Ny199.out]; exact HP30.1); clear HP30; replace HI0 := Aside0.mk (IsS52.grown zz2 hg (IsS52.own_ne HI0.out HO_3.out (by decide))); replace HB := Aside0.mk ((by rw [hw]; exact below_set (HB.out) (Nat.le_trans HL.out GB29.out) : Below w0.heap.size w0 w31)); replace HK := Aside0.mk (KeepBut.trans zz1 (KeepBut.of_grown hg g) (Kd.R_base2 HO_3.out)); replace HO_3 := Aside0.mk (hp_); clear hg hw hp_))
         go_ret; exact ⟨_, zz4, zz7, zz2, zz5, zz1⟩
        ·rw [if_neg c28] at H; exact absurd H (by simp)
       ·rw [if_neg c27] at H; exact absurd H (by simp)
      ·rw [if_neg c26] at H; exact absurd H (by simp)
     ·rw [if_neg c25] at H; have c25b0 : (t190 == 1) = false := beq_eq_false_iff_ne.mpr c25; have c25b1 : (t190 != 1) = true := bne_iff_ne.mpr c25
      by_cases c32 : 0 ≤ t187
      ·rw [if_pos c32] at H; have c32b0 : decide (0 ≤ t187) = true := decide_eq_true c32; clear c32
       by_cases c33 : t187 < (t179.length : Int)
       ·rw [if_pos c33] at H; have c33b0 : decide (t187 < (t179.length : Int)) = true := decide_eq_true c33; clear c33; replace H := Option.bind_eq_some_iff.mp H; obtain ⟨⟨t201, t202, t203⟩, A340, H⟩ := H; (try dsimp only at H); have A34 := Aside0.mk A340; clear A340; obtain ⟨y204, hy204⟩ : ∃ y_ : List (S30), y_ = (t179.set (t187 : Int).toNat (⟨(rd_T30 t179 t187).f0, t201⟩ : S30)) := ⟨_, rfl⟩; replace H : (some (y204, t202, t203)) = some (r1, r2, r3) := by first | (rw [hy204]; with_reducible exact H) | (have H2_ := (Option.bind_some _ _).symm.trans H; rw [hy204]; with_reducible exact H2_) | (have H2_ := (Option.bind_some _ _).symm.trans H; with_reducible exact H2_) | with_reducible exact H | (rw [hy204]; exact H) | exact H
        have Ny204 := Aside0.mk hy204; clear hy204; simp only [Option.some.injEq, Prod.mk.injEq] at H; obtain ⟨rfl, rfl, rfl⟩ := H; have p200 : 0 ≤ (t187 : Int) := of_decide_eq_true zz6; have q200 : t187 < (t179.length : Int) := of_decide_eq_true zz6; obtain ⟨ad200, e200, hx200_0, hx200_1⟩ := at_T30 (Kd.R_reads' HO_3.out).2.2 t187 p200 q200; cases e200; replace p200 := eq_true p200; replace q200 := eq_true q200; go_wp2_with (first | ((with_reducible refine gate_callee (f := 27) rfl ?_); refine goesQ_ 28 Tryz.func27 #[.pointer (some ⟨g, 0, none⟩), .string ((rd_T30 t179 t187).f1)] ?_; (with_reducible refine (spec_l1bend.calls g s0_0 t191 t192 ((rd_T30 t179 t187).f1) t201 t202 t203 w0 _ ?side1 ?side2 A34.out).mono ?_); (case side1 => repeat (first | (with_reducible first | exact HI0.out | apply IsS52.alloc | apply IsS52.drewN | apply IsS52.drew | apply IsS52.set_1 | apply IsS52.set_2) | exact HI0.out)); (case side2 => repeat (first | (with_reducible first | exact HB.out | apply below_alloc | apply pw_below_drewN | apply below_drew1 | refine below_set ?_ (IsS52.ge HI0.out)) | exact HB.out)); rintro e w36 ⟨rfl, hi, hb, hk⟩; refine ⟨_, rfl, ?_⟩; replace HO_3 := Aside0.mk (Kd.R_mono (Kd.R_keep (IsS52.apart (show IsS52 w0 _ g s0_0 t191 t192 from zz2) zz7 (by decide)) hk (fun _ h => h.2)) (fun _ h => h.1)); replace HK := Aside0.mk (KeepBut.trans zz1 hk (.inl rfl)); replace HB := Aside0.mk (hb); replace HI0 := Aside0.mk (hi); (try clear hb); (try clear hk); (try clear hi); have p35 : 0 ≤ (t187 : Int) := of_decide_eq_true zz6; have q35 : (t187 : Int) < ((t179.length : Int) : Int) := of_decide_eq_true zz6; obtain ⟨go35, co35, eo35, gb35, gl35, cl35, HG35⟩ := Kd.R_form HO_3.out (by omega); (first | cases eo35 | (injection eo35 with ea_ en_ ec_; (first | subst ea_ | (injection ea_ with ea_; subst ea_)); subst ec_; clear en_)); have GB35 := Aside0.mk gb35; have GG35 := Aside0.mk HG35; clear gb35 gl35 HG35; (first | simp only [add_plain] at hx200_0 | skip); (first | simp only [add_plain] at hx200_1 | skip); obtain ⟨ce35, hcl35, hM35, hcc35, hfr35⟩ := Kd.R_elem HO_3.out z30 (t187 : Int) p35 q35; obtain rfl := k30_openM hM35; have hx35_0 : w36.cell? ⟨go35, (t187 : Int).toNat * 2, none⟩ = some (.string ((rd_T30 t179 t187).f0)) := hcc35 0 _ rfl; have hx35_1 : w36.cell? ⟨go35, (t187 : Int).toNat * 2 + 1, none⟩ = some (.string ((rd_T30 t179 t187).f1)) := hcc35 1 _ rfl; have hf35_0 : w36.frozen? ⟨go35, (t187 : Int).toNat * 2, none⟩ = false := hfr35 0; have hf35_1 : w36.frozen? ⟨go35, (t187 : Int).toNat * 2 + 1, none⟩ = false := hfr35 1; clear hcl35 hcc35 hfr35 hM35; replace p35 := eq_true p35; replace q35 := eq_true q35; have HX37 := Aside0.mk (show Kd.R k30 30 w36 w.heap.size (fun _ => True) (.slice (some ⟨go35, 0, none⟩) t179.length co14) t179 from zz7); obtain ⟨ce37, hcl37, hM37, hcc37, hfr37⟩ := Kd.R_elem HX37.out z30 (t187 : Int) (of_decide_eq_true zz6) (by have h_ : (t187 : Int) < ((t179.length : Int) : Int) := of_decide_eq_true zz6; first | exact h_ | (have e_ := (Kd.R_reads' HO_3.out).1; omega) | simpa using h_); obtain rfl := k30_openM hM37; have HP37 := Kd.R_seg HX37.out (t187 : Int) (of_decide_eq_true zz6) (by have h_ : (t187 : Int) < ((t179.length : Int) : Int) := of_decide_eq_true zz6; first | exact h_ | (have e_ := (Kd.R_reads' HO_3.out).1; omega) | simpa using h_) (seg := [.string t201]) (j := 1) hcl37 hcc37 (show 2 ≤ 2 from by decide) (x' := (⟨(rd_T30 t179 t187).f0, t201⟩ : S30)) (k30_mkM _ _ _ (⟨(rd_T30 t179 t187).f0, t201⟩ : S30) ) (fun _ hk => hk); have hx37_1 := hcc37 1 _ rfl; (try simp only [show (k30).sz = 2 from rfl, Nat.mul_one, Nat.add_zero] at hx37_1); have hf37_1 := hfr37 1; (try simp only [show (k30).sz = 2 from rfl, Nat.mul_one, Nat.add_zero] at hf37_1); clear hcl37 hcc37 hfr37 hM37) | ((with_reducible refine gate_store (t := 9) (p := 30) rfl ?_); refine store_event (t := 9) (p := 30) (v := ?vo_w38) (w1 := (w36.setCell ⟨go35, (t187 : Int).toNat * 2 + 1, none⟩ (.string t201))) ?hg ?ho ?hn ?hr ?_; (case ho => rfl); (case hg => rfl); (case hn => rfl); (case hr => first | (go_simp; done) | (go_simp; rfl)); intro w38 hw; have hg : w36.grownBy w38 (some go35) := (by rw [hw]; exact HP37.2); have hp_ : Kd.R k30 30 w38 w.heap.size (fun _ => True) (.slice (some ⟨go35, 0, none⟩) t179.length co14) y204 := (by rw [hw, Ny204.out]; exact HP37.1); clear HP37; replace HI0 := Aside0.mk (IsS52.grown zz2 hg (IsS52.own_ne HI0.out HO_3.out (by decide))); replace HB := Aside0.mk ((by rw [hw]; exact below_set (HB.out) (Nat.le_trans HL.out GB35.out) : Below w0.heap.size w0 w38)); replace HK := Aside0.mk (KeepBut.trans zz1 (KeepBut.of_grown hg g) (Kd.R_base2 HO_3.out)); replace HO_3 := Aside0.mk (hp_); clear hg hw hp_))
        go_ret; exact ⟨_, zz4, zz7, zz2, zz5, zz1⟩
       ·rw [if_neg c33] at H; exact absurd H (by simp)
      ·rw [if_neg c32] at H; exact absurd H (by simp)
   ·replace c10 := Bool.eq_false_iff.mpr c10; subst c10; rw [if_neg Bool.false_ne_true] at H; simp only [Option.some.injEq, Prod.mk.injEq] at H; obtain ⟨rfl, rfl, rfl⟩ := H; go_wp2
    go_ret; exact ⟨_, zz4, zz7, zz2, zz5, zz1⟩

/-! ### spec_l1New: function 11 -/
def spec_l1New.l0 : Nat → List Int → Int → Int → Option (List Int × Int × Int)
 | 0, _, _, _ => none
 | k + 1, x0, x3, x4 => if x4 < (x0.length : Int) then (if x4 < 4000 then (if 0 ≤ x4 then (spec_l1New.l0 k x0 (Go.bits .and .i64 (wrap64 ((wrap64 ((wrap64 (x3 * 131)) + (wrap64 (rd x0 x4)))) + 7)) 1073741823) (wrap64 (x4 + 1))) else (none)) else (some (x0, 0, x3))) else (some (x0, 0, x3))
def spec_l1New.f (k : Nat) (l0 : List Int) : Option (List Int × Int × Int) := spec_l1New.l0 k l0 (wrap64 (64242 + (l0.length : Int))) 0
theorem spec_l1New.mono_l : ∀ k, (∀ y0 y1 y2, LeO (spec_l1New.l0 k y0 y1 y2) (spec_l1New.l0 (k + 1) y0 y1 y2))
 | 0 => fun _ _ _ r h => by simp [spec_l1New.l0] at h
 | k + 1 => by
  have ih0 := spec_l1New.mono_l k
  ·intro y0 y1 y2; unfold spec_l1New.l0
   repeat' first | (with_reducible first | exact ih0 _ _ _ | exact LeO.refl _ | exact LeO.none _ | refine LeO.ite ?_ ?_ | refine LeO.bind ?_ (fun _ => ?_)) | exact ih0 _ _ _ | exact LeO.none _ | refine LeO.ite ?_ ?_ | refine LeO.bind ?_ (fun _ => ?_)
theorem spec_l1New.mono : ∀ a0 k, LeO (spec_l1New.f k a0) (spec_l1New.f (k + 1) a0) := by
 intro a0 k; have ih0 := spec_l1New.mono_l k; unfold spec_l1New.f
 repeat' first | (with_reducible first | exact ih0 _ _ _ | exact LeO.refl _ | exact LeO.none _ | refine LeO.ite ?_ ?_ | refine LeO.bind ?_ (fun _ => ?_)) | exact ih0 _ _ _ | exact LeO.none _ | refine LeO.ite ?_ ?_ | refine LeO.bind ?_ (fun _ => ?_)
set_option maxHeartbeats 40000000 in
set_option maxRecDepth 100000 in
theorem spec_l1New.calls (k : Nat) (A0 : Option Addr) (c0 : Nat) (l0 : List Int) (r1 : List Int) (r2 : Int) (r3 : Int) (w0 w : World) (hB : Below w0.heap.size w0 w) (hr0 : Kd.C (Kd.int .u8) w0 A0 l0.length l0) (hc0 : l0.length ≤ c0) (h : spec_l1New.f k l0 = some (r1, r2, r3)) :
  Calls Tryz.prog 11 #[.slice A0 l0.length c0] w fun e w' => ∃ g_ : Nat, e = .returned (.pointer (some ⟨g_, 0, none⟩)) ∧ IsS52 w0 w' g_ r1 r2 r3 ∧ Below w0.heap.size w0 w' ∧ Below w.heap.size w w' := by
 have hu52 := Tryz.underlying52; have HR0 := Aside0.mk hr0; have HC0 := Aside0.mk hc0; clear hr0 hc0; have HBW := Aside0.mk (Below.refl w.heap.size w); have HW0 := Aside0.mk hB.size; have HB := Aside0.mk hB; clear hB; have H : (spec_l1New.l0 k l0 (wrap64 (64242 + (l0.length : Int))) 0) = some (r1, r2, r3) := h; clear h; have H' := Aside0.mk H; clear H; go_enter Tryz.func11, Tryz.ntmps11
 go_wp2
 go_loopg [3, 4] k (fun kq v3 v4 w' => ∃ (x3_1 : Int) (x4_1 : Int), v3 = .int .i64 x3_1 ∧ v4 = .int .i64 x4_1 ∧ Aside0 (spec_l1New.l0 kq l0 x3_1 x4_1 = some (r1, r2, r3)) ∧ Aside0 (kq ≤ k) ∧ Aside0 (Below w0.heap.size w0 w') ∧ Aside0 (Below w.heap.size w w'))
 case atStart => exact ⟨(wrap64 (64242 + (l0.length : Int))), (0), zz3, zz3, H', ⟨Nat.le_refl _⟩, ⟨zz0⟩, HBW⟩
 case round =>
  clear H'; (try clear c1); obtain ⟨x3_1, x4_1, rfl, rfl, HA, HK1, HB, HBW⟩ := hrel
  cases gk with
  | zero => exact absurd HA.out (by simp [spec_l1New.l0])
  | succ k1 =>
   have H := HA.out; clear HA; simp only [spec_l1New.l0] at H
   by_cases c2 : x4_1 < (l0.length : Int)
   ·rw [if_pos c2] at H; have c2b0 : decide (x4_1 < (l0.length : Int)) = true := decide_eq_true c2; clear c2
    by_cases c3 : x4_1 < 4000
    ·rw [if_pos c3] at H; have c3b0 : decide (x4_1 < 4000) = true := decide_eq_true c3; clear c3
     by_cases c4 : 0 ≤ x4_1
     ·rw [if_pos c4] at H; have c4b0 : decide (0 ≤ x4_1) = true := decide_eq_true c4; clear c4; have H' := Aside0.mk H; clear H; have p205 : 0 ≤ (x4_1 : Int) := of_decide_eq_true zz6; have q205 : x4_1 < (l0.length : Int) := of_decide_eq_true zz6; obtain ⟨ad205, e205, hx205_0⟩ := Kd.at_int HR0.out x4_1 p205 q205; cases e205; replace hx205_0 := pw_cell_below HB.out hx205_0; replace p205 := eq_true p205; replace q205 := eq_true q205; go_wp2
      go_roundg k1
      (case measure => have := HK1.out; omega); case rel => exact ⟨(Go.bits .and .i64 (wrap64 ((wrap64 ((wrap64 (x3_1 * 131)) + (wrap64 (rd l0 x4_1)))) + 7)) 1073741823), (wrap64 (x4_1 + 1)), zz3, zz3, H', ⟨zz24⟩, ⟨zz0⟩, HBW⟩
     ·rw [if_neg c4] at H; exact absurd H (by simp)
    ·rw [if_neg c3] at H; have c3b0 : decide (x4_1 < 4000) = false := decide_eq_false c3; clear c3; simp only [Option.some.injEq, Prod.mk.injEq] at H; obtain ⟨rfl, rfl, rfl⟩ := H; go_wp2
     go_ret; exact ⟨_, rfl, IsS52.new w0 _ A0 c0 l0 0 x3_1 HB.out HR0.out, below_alloc HB.out _, below_alloc HBW.out _⟩
   ·rw [if_neg c2] at H; have c2b0 : decide (x4_1 < (l0.length : Int)) = false := decide_eq_false c2; clear c2; simp only [Option.some.injEq, Prod.mk.injEq] at H; obtain ⟨rfl, rfl, rfl⟩ := H; go_wp2
    go_ret; exact ⟨_, rfl, IsS52.new w0 _ A0 c0 l0 0 x3_1 HB.out HR0.out, below_alloc HB.out _, below_alloc HBW.out _⟩

/-! ### spec_DrawEndToEnd: function 4 -/
def spec_DrawEndToEnd.f (k : Nat) (l0 : List Int) : Option ((List (S30))) := (spec_l1New.f k l0).bind fun bt208 => ((spec_l5bent.f k bt208.1 bt208.2.1 bt208.2.2).bind fun bt212 => (some bt212.1))
theorem spec_DrawEndToEnd.mono : ∀ a0 k, LeO (spec_DrawEndToEnd.f k a0) (spec_DrawEndToEnd.f (k + 1) a0) := by
 intro a0 k; unfold spec_DrawEndToEnd.f
 repeat' first | (with_reducible first | exact spec_l1New.mono _ _ | exact spec_l5bent.mono _ _ _ _ | exact LeO.refl _ | exact LeO.none _ | refine LeO.ite ?_ ?_ | refine LeO.bind ?_ (fun _ => ?_)) | exact spec_l1New.mono _ _ | exact spec_l5bent.mono _ _ _ _ | exact LeO.none _ | refine LeO.ite ?_ ?_ | refine LeO.bind ?_ (fun _ => ?_)
set_option maxHeartbeats 40000000 in
set_option maxRecDepth 100000 in
theorem spec_DrawEndToEnd.calls (k : Nat) (A0 : Option Addr) (c0 : Nat) (l0 : List Int) (r : List (S30)) (w : World) (hr0 : Kd.C (Kd.int .u8) w A0 l0.length l0) (hc0 : l0.length ≤ c0) (h : spec_DrawEndToEnd.f k l0 = some r) :
  Calls Tryz.prog 4 #[.slice A0 l0.length c0] w fun e w' => ∃ v0_ : Value, e = .returned (v0_) ∧ Kd.R k30 30 w' w.heap.size (fun _ => True) v0_ r ∧ Below w.heap.size w w' := by
 have HR0 := Aside0.mk hr0; have HC0 := Aside0.mk hc0; clear hr0 hc0; have HB := Aside0.mk (Below.refl w.heap.size w); have H : ((spec_l1New.f k l0).bind fun bt208 => ((spec_l5bent.f k bt208.1 bt208.2.1 bt208.2.2).bind fun bt212 => (some bt212.1))) = some r := h; clear h; replace H := Option.bind_eq_some_iff.mp H; obtain ⟨⟨t208, t209, t210⟩, A20, H⟩ := H; (try dsimp only at H); have A2 := Aside0.mk A20; clear A20; replace H := Option.bind_eq_some_iff.mp H; obtain ⟨⟨t212, t215, t216⟩, A30, H⟩ := H; (try dsimp only at H); have A3 := Aside0.mk A30; clear A30; obtain rfl := Option.some.inj H; go_enter Tryz.func4, Tryz.ntmps4
 go_wp2_with (first | ((with_reducible refine gate_callee (f := 11) rfl ?_); refine goesQ_ 4 Tryz.func11 #[.slice A0 l0.length c0] ?_; (with_reducible refine (spec_l1New.calls k _ _ l0 t208 t209 t210 w _ ?side1 ?side2 ?side3 A2.out).mono ?_); (case side1 => repeat (first | (with_reducible first | exact HB.out | apply below_alloc | apply pw_below_drewN | apply below_drew1) | exact HB.out)); (case side2 => exact HR0.out); (case side3 => exact HC0.out); rintro e w4 ⟨g211, rfl, hi, hb, hb2⟩; refine ⟨_, rfl, ?_⟩; replace HB := Aside0.mk (hb); have HI211 := Aside0.mk (hi); (try clear hb); (try clear hb2); (try clear hi)) | ((with_reducible refine gate_callee (f := 10) rfl ?_); refine goesQ_ 5 Tryz.func10 #[.pointer (some ⟨g211, 0, none⟩)] ?_; (with_reducible refine (spec_l5bent.calls k g211 t208 t209 t210 t212 t215 t216 w _ ?side1 ?side2 A3.out).mono ?_); (case side1 => repeat (first | (with_reducible first | exact HI211.out | apply IsS52.alloc | apply IsS52.drewN | apply IsS52.drew | apply IsS52.set_1 | apply IsS52.set_2) | exact HI211.out)); (case side2 => repeat (first | (with_reducible first | exact HB.out | apply below_alloc | apply pw_below_drewN | apply below_drew1 | refine below_set ?_ (IsS52.ge HI211.out)) | exact HB.out)); rintro e w5 ⟨v213, rfl, ho0, hi, hb, hk⟩; refine ⟨_, rfl, ?_⟩; have HO214 := Aside0.mk (Kd.R_lower ho0 (below_size zz39)); replace HB := Aside0.mk (hb); replace HI211 := Aside0.mk (hi); (try clear hb); (try clear hk); (try clear hi); (try clear ho0)))
 go_ret; exact ⟨_, zz4, by (with_reducible repeat (first | apply Kd.R_alloc | apply Kd.R_drewN | apply Kd.R_drew)); exact HO214.out, zz39⟩

/-! ### impl_isUpper: function 34 -/
def impl_isUpper.f (a0 : Int) : Option (Bool) := if a0 ≥ 65 then (some (decide (a0 ≤ 90))) else (some false)
set_option maxHeartbeats 40000000 in
set_option maxRecDepth 100000 in
theorem impl_isUpper.calls (a0 : Int) (r : Bool) (w : World) (h : impl_isUpper.f a0 = some r) :
  Calls Tryz.prog 34 #[.int .u8 a0] w fun e w' => e = .returned (.bool r) ∧ Drawn0 w w' := by
 have H : (if a0 ≥ 65 then (some (decide (a0 ≤ 90))) else (some false)) = some r := h; clear h
 by_cases c2 : a0 ≥ 65
 ·rw [if_pos c2] at H; have c2b0 : decide (65 ≤ a0) = true := decide_eq_true c2; clear c2; obtain rfl := Option.some.inj H; go_enter Tryz.func34, Tryz.ntmps34
  go_wp2
  go_ret; exact ⟨zz3, zz8⟩
 ·rw [if_neg c2] at H; have c2b0 : decide (65 ≤ a0) = false := decide_eq_false c2; clear c2; obtain rfl := Option.some.inj H; go_enter Tryz.func34, Tryz.ntmps34
  go_wp2
  go_ret; exact ⟨zz3, zz8⟩

/-! ### impl_Fold: function 16 -/
theorem impl_Fold_up (x : Int) : impl_isUpper.f x = some (decide (65 ≤ x ∧ x ≤ 90)) := by unfold impl_isUpper.f; split <;> simp <;> omega
def impl_Fold.f (a0 : ByteArray) : Option (ByteArray) := if a0.size ≤ 1099511627776 then some (strOfNums ((bytesOf a0).map lowI)) else none
set_option maxHeartbeats 8000000 in
set_option maxRecDepth 100000 in
theorem impl_Fold.calls (a0 : ByteArray) (r : ByteArray) (w : World) (h : impl_Fold.f a0 = some r) :
  Calls Tryz.prog 16 #[.string a0] w fun e w' => e = .returned (.string r) ∧ Below w.heap.size w w' := by
 have hu22 := Tryz.underlying22; unfold impl_Fold.f at h
 by_cases hlim : a0.size ≤ 1099511627776
 ·rw [if_pos hlim] at h; obtain rfl := Option.some.inj h; clear h; have HL := Aside0.mk hlim; clear hlim; have kb := fun W => print_bytes (P := Tryz.prog) 9 22 5 Tryz.underlying9 Tryz.underlying22 Tryz.underlying5 a0 W; go_enter Tryz.func16, Tryz.ntmps16
  go_wp2
  go_loopg [10] (a0.size + 1) (fun kq v4 w' => ∃ (x4 : Int), v4 = .int .i64 x4 ∧ Aside0 (∃ j : Nat, x4 = (j : Int) ∧ j ≤ a0.size ∧ kq + j = a0.size + 1 ∧ BRow w' w.heap.size (lowTo a0 j)) ∧ Aside0 (w.heap.size < w'.heap.size ∧ Below w.heap.size w w'))
  case atStart =>
   exact ⟨0, rfl, ⟨0, rfl, by omega, by omega, by rw [lowTo_zero]; exact BRow.new _ _ _⟩, ⟨by rw [Lib.bytesWorld_size]; omega, bytes_below (Below.refl _ _) (Nat.le_refl _) _ _⟩⟩
  case round =>
   obtain ⟨x4, rfl, HJ, HB⟩ := hrel; obtain ⟨j, hxj, hjl, hkj, hbr⟩ := HJ.out; clear HJ; have HX := Aside0.mk hxj; have HJL := Aside0.mk hjl; have HK := Aside0.mk hkj; have HR := Aside0.mk hbr; clear hxj hjl hkj hbr
   cases gk with
   | zero => have := HK.out; have := HJL.out; omega
   | succ k1 =>
   by_cases hlt : j < a0.size
   ·have c1 : decide (x4 < (a0.size : Int)) = true := decide_eq_true (by have := HX.out; omega); have p9 : 0 ≤ (x4 : Int) := by have := HX.out; omega
    have q9 : x4 < (a0.size : Int) := of_decide_eq_true c1; have HLT := Aside0.mk hlt; have hx0 := HR.out.cell x4.toNat zz41; have hfz := HR.out.frozen x4.toNat zz41; have hbj : (lowTo a0 j).getD x4.toNat 0 = (bytesOf a0).getD j 0 := by rw [HX.out, Int.toNat_natCast]; exact lowTo_get _ _ hlt
    have hset := lowTo_set a0 j hlt
    have hsame : (lowTo a0 j).set j ((bytesOf a0).getD j 0) = lowTo a0 j := by
     rw [← lowTo_get _ _ hlt, List.getD_eq_getElem?_getD, List.getElem?_eq_getElem (by rw [lowTo_length _ _ (by omega)]; exact hlt)]; exact List.set_getElem_self _
    rw [hbj] at hx0; generalize (bytesOf a0).getD j 0 = b at hx0 hset hsame; have HS := Aside0.mk hset; have HE := Aside0.mk hsame; clear hlt hset hbj hsame; replace p9 := eq_true p9; replace q9 := eq_true q9; go_wp2_with fail
    refine (impl_isUpper.calls b (decide (65 ≤ b ∧ b ≤ 90)) _ (impl_Fold_up b)).mono ?_; rintro e w2 ⟨rfl, ⟨nd, rfl⟩⟩
    by_cases hup : 65 ≤ b ∧ b ≤ 90
    ·have c2 : decide (65 ≤ b ∧ b ≤ 90) = true := decide_eq_true hup; have HU := Aside0.mk hup; rw [c2]; clear hup; go_wp2
     go_roundg k1
     case measure => omega
     case rel =>
      have hx := HX.out; have hk := HK.out; have hlt := HLT.out; have hl := HL.out; have hu := HU.out; have hxn : x4.toNat = j := by omega
      have hlow : lowI b = (b + 32) % 256 := by unfold lowI; rw [if_pos (by omega), if_pos (by omega)]
      refine ⟨_, rfl, ⟨j + 1, by rw [hx]; unfold wrap64; omega, by omega, by omega, ?_⟩, ⟨?_, ?_⟩⟩
      ·rw [← HS.out, hxn, hlow]; exact HR.out.set j _
      ·have := HB.out.1; simpa using this
      ·exact (HB.out.2.trans (pw_below_drewN (Below.refl _ _) nd)).setCell (Nat.le_refl _) _
    ·have c2 : decide (65 ≤ b ∧ b ≤ 90) = false := decide_eq_false hup; have HU := Aside0.mk hup; rw [c2]; clear hup; go_wp2
     go_roundg k1
     case measure => omega
     case rel =>
      have hx := HX.out; have hk := HK.out; have hlt := HLT.out; have hl := HL.out; have hu := HU.out; have hlow : lowI b = b := by unfold lowI; split <;> (try split) <;> omega
      refine ⟨_, rfl, ⟨j + 1, by rw [hx]; unfold wrap64; omega, by omega, by omega, ?_⟩, ⟨?_, ?_⟩⟩
      ·rw [← HS.out, hlow, HE.out]; exact HR.out
      ·have := HB.out.1; simpa using this
      ·exact HB.out.2.trans (pw_below_drewN (Below.refl _ _) nd)
   ·have c1 : decide (x4 < (a0.size : Int)) = false := decide_eq_false (by have := HX.out; omega); have hj2 : j = a0.size := by have := HJL.out; omega
    have hst := HR.out.string (P := Tryz.prog) (c := grownCap w a0.size 0 5) (src := 22) (dst := 9) Tryz.underlying22 Tryz.underlying5 Tryz.underlying9 (lowTo_length a0 j HJL.out); rw [hj2, lowTo_all] at hst; go_wp2_with fail
    go_ret; exact ⟨rfl, HB.out.2⟩
 ·rw [if_neg hlim] at h; cases h


/-! ### impl_within: function 49 -/
def impl_within.f (a0 : Int) (a1 : Int) (a2 : Int) : Option (Bool) := if a1 ≤ a0 then (some (decide (a0 ≤ a2))) else (some false)
set_option maxHeartbeats 40000000 in
set_option maxRecDepth 100000 in
theorem impl_within.calls (a0 : Int) (a1 : Int) (a2 : Int) (r : Bool) (w : World) (h : impl_within.f a0 a1 a2 = some r) :
  Calls Tryz.prog 49 #[.int .i64 a0, .int .i64 a1, .int .i64 a2] w fun e w' => e = .returned (.bool r) ∧ Drawn0 w w' := by
 have H : (if a1 ≤ a0 then (some (decide (a0 ≤ a2))) else (some false)) = some r := h; clear h
 by_cases c4 : a1 ≤ a0
 ·rw [if_pos c4] at H; have c4b0 : decide (a1 ≤ a0) = true := decide_eq_true c4; clear c4; obtain rfl := Option.some.inj H; go_enter Tryz.func49, Tryz.ntmps49
  go_wp2
  go_ret; exact ⟨zz3, zz8⟩
 ·rw [if_neg c4] at H; have c4b0 : decide (a1 ≤ a0) = false := decide_eq_false c4; clear c4; obtain rfl := Option.some.inj H; go_enter Tryz.func49, Tryz.ntmps49
  go_wp2
  go_ret; exact ⟨zz3, zz8⟩

-- NOT PRINTED: function 50 (impl_all)

/-! ### impl_isLower: function 67 -/
def impl_isLower.f (a0 : Int) : Option (Bool) := if a0 ≥ 97 then (some (decide (a0 ≤ 122))) else (some false)
set_option maxHeartbeats 40000000 in
set_option maxRecDepth 100000 in
theorem impl_isLower.calls (a0 : Int) (r : Bool) (w : World) (h : impl_isLower.f a0 = some r) :
  Calls Tryz.prog 67 #[.int .u8 a0] w fun e w' => e = .returned (.bool r) ∧ Drawn0 w w' := by
 have H : (if a0 ≥ 97 then (some (decide (a0 ≤ 122))) else (some false)) = some r := h; clear h
 by_cases c2 : a0 ≥ 97
 ·rw [if_pos c2] at H; have c2b0 : decide (97 ≤ a0) = true := decide_eq_true c2; clear c2; obtain rfl := Option.some.inj H; go_enter Tryz.func67, Tryz.ntmps67
  go_wp2
  go_ret; exact ⟨zz3, zz8⟩
 ·rw [if_neg c2] at H; have c2b0 : decide (97 ≤ a0) = false := decide_eq_false c2; clear c2; obtain rfl := Option.some.inj H; go_enter Tryz.func67, Tryz.ntmps67
  go_wp2
  go_ret; exact ⟨zz3, zz8⟩

/-! ### impl_isDigit: function 68 -/
def impl_isDigit.f (a0 : Int) : Option (Bool) := if a0 ≥ 48 then (some (decide (a0 ≤ 57))) else (some false)
set_option maxHeartbeats 40000000 in
set_option maxRecDepth 100000 in
theorem impl_isDigit.calls (a0 : Int) (r : Bool) (w : World) (h : impl_isDigit.f a0 = some r) :
  Calls Tryz.prog 68 #[.int .u8 a0] w fun e w' => e = .returned (.bool r) ∧ Drawn0 w w' := by
 have H : (if a0 ≥ 48 then (some (decide (a0 ≤ 57))) else (some false)) = some r := h; clear h
 by_cases c2 : a0 ≥ 48
 ·rw [if_pos c2] at H; have c2b0 : decide (48 ≤ a0) = true := decide_eq_true c2; clear c2; obtain rfl := Option.some.inj H; go_enter Tryz.func68, Tryz.ntmps68
  go_wp2
  go_ret; exact ⟨zz3, zz8⟩
 ·rw [if_neg c2] at H; have c2b0 : decide (48 ≤ a0) = false := decide_eq_false c2; clear c2; obtain rfl := Option.some.inj H; go_enter Tryz.func68, Tryz.ntmps68
  go_wp2
  go_ret; exact ⟨zz3, zz8⟩

/-! ### strings_IndexByte: function 69 -/
def strings_IndexByte.f (a0 : ByteArray) (a1 : Int) : Option (Int) := some (Lib.indexByte a0.data.toList a1.toNat.toUInt8)
theorem strings_IndexByte.calls (a0 : ByteArray) (a1 : Int) (r : Int) (w : World) (h : strings_IndexByte.f a0 a1 = some r) :
  Calls Tryz.prog 69 #[.string a0, .int .u8 a1] w fun e w' => e = .returned (.int .i64 r) ∧ Drawn0 w w' := by
 obtain rfl := Option.some.inj h; exact (Tryz.strings_IndexByte a0 a1 w).mono fun e w' ⟨he, hw⟩ => ⟨he, hw ▸ Drawn0.refl w⟩


/-! ### impl_isTokenByte: function 51 -/
def impl_isTokenByte.f (a0 : Int) : Option (Bool) := (impl_isLower.f a0).bind fun t217 => (if t217 = true then (some true) else ((impl_isUpper.f a0).bind fun t218 => (if t218 = true then (some true) else ((impl_isDigit.f a0).bind fun t219 => (if t219 = true then (some true) else (if a0 = 96 then (some true) else ((strings_IndexByte.f (⟨#[33, 35, 36, 37, 38, 39, 42, 43, 45, 46, 94, 95, 124, 126]⟩ : ByteArray) a0).bind fun t220 => (some (decide (t220 ≥ 0))))))))))
set_option maxHeartbeats 40000000 in
set_option maxRecDepth 100000 in
theorem impl_isTokenByte.calls (a0 : Int) (r : Bool) (w : World) (h : impl_isTokenByte.f a0 = some r) :
  Calls Tryz.prog 51 #[.int .u8 a0] w fun e w' => e = .returned (.bool r) ∧ Drawn0 w w' := by
 have H : ((impl_isLower.f a0).bind fun t217 => (if t217 = true then (some true) else ((impl_isUpper.f a0).bind fun t218 => (if t218 = true then (some true) else ((impl_isDigit.f a0).bind fun t219 => (if t219 = true then (some true) else (if a0 = 96 then (some true) else ((strings_IndexByte.f (⟨#[33, 35, 36, 37, 38, 39, 42, 43, 45, 46, 94, 95, 124, 126]⟩ : ByteArray) a0).bind fun t220 => (some (decide (t220 ≥ 0))))))))))) = some r := h; clear h; replace H := Option.bind_eq_some_iff.mp H; obtain ⟨t217, A20, H⟩ := H; (try dsimp only at H); have A2 := Aside0.mk A20; clear A20; have HC3 := Aside0.mk H; clear H; go_enter Tryz.func51, Tryz.ntmps51
 repeat' (first | (go_big_may; (first | ((with_reducible refine gate_callee (f := 67) rfl ?_); refine goesR_ 4 Tryz.func67 #[.int .u8 a0] (impl_isLower.calls a0 t217 _ A2.out) ?_; rintro w' ⟨nd, rfl⟩))) | go_values | go_skip | go_big_skip | go_big_want | ((first | (with_reducible refine gate_nog rfl ?_) | (fail_if_success with_reducible refine gate_any ?_)); go_step) | go_upon | simp only [Bool.not_true, Bool.not_false, Bool.true_and, Bool.false_and, Bool.true_or, Bool.false_or] | dsimp only)
 (try simp only [Act.put, List.setIfInBounds_toArray, List.set_cons_zero, List.set_cons_succ]); have H := HC3.out; clear HC3
 by_cases c4 : t217 = true
 ·subst c4; rw [if_pos rfl] at H; obtain rfl := Option.some.inj H; go_wp2
  go_ret; exact ⟨zz3, zz8⟩
 ·replace c4 := Bool.eq_false_iff.mpr c4; subst c4; rw [if_neg Bool.false_ne_true] at H; replace H := Option.bind_eq_some_iff.mp H; obtain ⟨t218, A50, H⟩ := H; (try dsimp only at H); have A5 := Aside0.mk A50; clear A50; have HC6 := Aside0.mk H; clear H
  repeat' (first | (go_big_may; (first | (go_at_call 34; (with_reducible refine (impl_isUpper.calls a0 t218 _ A5.out).mono ?_); rintro e w' ⟨rfl, ⟨nd, rfl⟩⟩))) | go_values | go_skip | go_big_skip | go_big_want | ((first | (with_reducible refine gate_nog rfl ?_) | (fail_if_success with_reducible refine gate_any ?_)); go_step) | go_upon | simp only [Bool.not_true, Bool.not_false, Bool.true_and, Bool.false_and, Bool.true_or, Bool.false_or] | dsimp only)
  (try simp only [Act.put, List.setIfInBounds_toArray, List.set_cons_zero, List.set_cons_succ]); have H := HC6.out; clear HC6
  by_cases c7 : t218 = true
  ·subst c7; rw [if_pos rfl] at H; obtain rfl := Option.some.inj H; go_wp2
   go_ret; exact ⟨zz3, zz8⟩
  ·replace c7 := Bool.eq_false_iff.mpr c7; subst c7; rw [if_neg Bool.false_ne_true] at H; replace H := Option.bind_eq_some_iff.mp H; obtain ⟨t219, A80, H⟩ := H; (try dsimp only at H); have A8 := Aside0.mk A80; clear A80; have HC9 := Aside0.mk H; clear H
   repeat' (first | (go_big_may; (first | (go_at_call 68; (with_reducible refine (impl_isDigit.calls a0 t219 _ A8.out).mono ?_); rintro e w' ⟨rfl, ⟨nd, rfl⟩⟩))) | go_values | go_skip | go_big_skip | go_big_want | ((first | (with_reducible refine gate_nog rfl ?_) | (fail_if_success with_reducible refine gate_any ?_)); go_step) | go_upon | simp only [Bool.not_true, Bool.not_false, Bool.true_and, Bool.false_and, Bool.true_or, Bool.false_or] | dsimp only)
   (try simp only [Act.put, List.setIfInBounds_toArray, List.set_cons_zero, List.set_cons_succ]); have H := HC9.out; clear HC9
   by_cases c10 : t219 = true
   ·subst c10; rw [if_pos rfl] at H; obtain rfl := Option.some.inj H; go_wp2
    go_ret; exact ⟨zz3, zz8⟩
   ·replace c10 := Bool.eq_false_iff.mpr c10; subst c10; rw [if_neg Bool.false_ne_true] at H
    by_cases c11 : a0 = 96
    ·rw [if_pos c11] at H; have c11b0 : (a0 == 96) = true := beq_iff_eq.mpr c11; have c11b1 : (a0 != 96) = false := bne_eq_false_iff_eq.mpr c11; clear c11; (first | rw [c11b0] | (simp only [i64_w, i32_w]; rw [c11b0]) | rw [c11b1] | skip); obtain rfl := Option.some.inj H; go_wp2
     go_ret; exact ⟨zz3, zz8⟩
    ·rw [if_neg c11] at H; have c11b0 : (a0 == 96) = false := beq_eq_false_iff_ne.mpr c11; have c11b1 : (a0 != 96) = true := bne_iff_ne.mpr c11; (first | rw [c11b0] | (simp only [i64_w, i32_w]; rw [c11b0]) | rw [c11b1] | skip); replace H := Option.bind_eq_some_iff.mp H; obtain ⟨t220, A120, H⟩ := H; (try dsimp only at H); have A12 := Aside0.mk A120; clear A120; obtain rfl := Option.some.inj H; go_wp2_with (first | (go_at_call 69; (with_reducible refine (strings_IndexByte.calls (⟨#[33, 35, 36, 37, 38, 39, 42, 43, 45, 46, 94, 95, 124, 126]⟩ : ByteArray) a0 t220 _ A12.out).mono ?_); rintro e w' ⟨rfl, ⟨nd, rfl⟩⟩))
     go_ret; exact ⟨zz3, zz8⟩

/-! ### impl_all__impl_isTokenByte: function 50 at a function value -/
def impl_all__impl_isTokenByte.l0 : Nat → ByteArray → Int → Option (Bool)
 | 0, _, _ => none
 | k + 1, x0, x5 => if x5 < (x0.size : Int) then (if 0 ≤ x5 then ((impl_isTokenByte.f (bt x0 x5)).bind fun t221 => (if t221 = true then (impl_all__impl_isTokenByte.l0 k x0 (wrap64 (x5 + 1))) else (some false))) else (none)) else (some true)
def impl_all__impl_isTokenByte.f (k : Nat) (a0 : ByteArray) : Option (Bool) := impl_all__impl_isTokenByte.l0 k a0 0
theorem impl_all__impl_isTokenByte.mono_l : ∀ k, (∀ y0 y1, LeO (impl_all__impl_isTokenByte.l0 k y0 y1) (impl_all__impl_isTokenByte.l0 (k + 1) y0 y1))
 | 0 => fun _ _ r h => by simp [impl_all__impl_isTokenByte.l0] at h
 | k + 1 => by
  have ih0 := impl_all__impl_isTokenByte.mono_l k
  ·intro y0 y1; unfold impl_all__impl_isTokenByte.l0
   repeat' first | (with_reducible first | exact ih0 _ _ | exact LeO.refl _ | exact LeO.none _ | refine LeO.ite ?_ ?_ | refine LeO.bind ?_ (fun _ => ?_)) | exact ih0 _ _ | exact LeO.none _ | refine LeO.ite ?_ ?_ | refine LeO.bind ?_ (fun _ => ?_)
theorem impl_all__impl_isTokenByte.mono : ∀ a0 k, LeO (impl_all__impl_isTokenByte.f k a0) (impl_all__impl_isTokenByte.f (k + 1) a0) := by
 intro a0 k; have ih0 := impl_all__impl_isTokenByte.mono_l k; unfold impl_all__impl_isTokenByte.f
 repeat' first | (with_reducible first | exact ih0 _ _ | exact LeO.refl _ | exact LeO.none _ | refine LeO.ite ?_ ?_ | refine LeO.bind ?_ (fun _ => ?_)) | exact ih0 _ _ | exact LeO.none _ | refine LeO.ite ?_ ?_ | refine LeO.bind ?_ (fun _ => ?_)
set_option maxHeartbeats 40000000 in
set_option maxRecDepth 100000 in
theorem impl_all__impl_isTokenByte.calls (k : Nat) (a0 : ByteArray) (r : Bool) (w : World) (h : impl_all__impl_isTokenByte.f k a0 = some r) :
  Calls Tryz.prog 50 #[.string a0, .func (.func 51) #[] #[]] w fun e w' => e = .returned (.bool r) ∧ Drawn0 w w' := by
 have H : (impl_all__impl_isTokenByte.l0 k a0 0) = some r := h; clear h; have H' := Aside0.mk H; clear H; go_enter Tryz.func50, Tryz.ntmps50
 go_wp2
 go_loopg [5] k (fun kq v5 w' => ∃ (x5_1 : Int), v5 = .int .i64 x5_1 ∧ Aside0 (impl_all__impl_isTokenByte.l0 kq a0 x5_1 = some r) ∧ Aside0 (kq ≤ k) ∧ Drawn0 w w')
 case atStart => exact ⟨(0), zz3, H', ⟨Nat.le_refl _⟩, zz8⟩
 case round =>
  clear H'; obtain ⟨x5_1, rfl, HA, HK1, ⟨m1, rfl⟩⟩ := hrel
  cases gk with
  | zero => exact absurd HA.out (by simp [impl_all__impl_isTokenByte.l0])
  | succ k1 =>
   have H := HA.out; clear HA; simp only [impl_all__impl_isTokenByte.l0] at H
   by_cases c2 : x5_1 < (a0.size : Int)
   ·rw [if_pos c2] at H; have c2b0 : decide (x5_1 < (a0.size : Int)) = true := decide_eq_true c2; clear c2
    by_cases c3 : 0 ≤ x5_1
    ·rw [if_pos c3] at H; have c3b0 : decide (0 ≤ x5_1) = true := decide_eq_true c3; clear c3; replace H := Option.bind_eq_some_iff.mp H; obtain ⟨t221, A50, H⟩ := H; (try dsimp only at H); have A5 := Aside0.mk A50; clear A50; have HC6 := Aside0.mk H; clear H; have p4 : 0 ≤ (x5_1 : Int) := of_decide_eq_true zz6; have q4 : x5_1 < (a0.size : Int) := of_decide_eq_true zz6; have hx4 := bt_at a0 x5_1; replace p4 := eq_true p4; replace q4 := eq_true q4; go_upto_if 17 with (first | (go_at_call 51; (with_reducible refine (impl_isTokenByte.calls (bt a0 x5_1) t221 _ A5.out).mono ?_); rintro e w' ⟨rfl, ⟨nd, rfl⟩⟩))
     (try simp only [Act.put, List.setIfInBounds_toArray, List.set_cons_zero, List.set_cons_succ]); have H := HC6.out; clear HC6
     by_cases c7 : t221 = true
     ·subst c7; rw [if_pos rfl] at H; have H' := Aside0.mk H; clear H; go_wp2
      go_roundg k1
      (case measure => have := HK1.out; omega); case rel => exact ⟨(wrap64 (x5_1 + 1)), zz3, H', ⟨zz24⟩, zz8⟩
     ·replace c7 := Bool.eq_false_iff.mpr c7; subst c7; rw [if_neg Bool.false_ne_true] at H; obtain rfl := Option.some.inj H; go_wp2
      go_ret; exact ⟨zz3, zz8⟩
    ·rw [if_neg c3] at H; exact absurd H (by simp)
   ·rw [if_neg c2] at H; have c2b0 : decide (x5_1 < (a0.size : Int)) = false := decide_eq_false c2; clear c2; obtain rfl := Option.some.inj H; go_wp2
    go_ret; exact ⟨zz3, zz8⟩

end Go.Proofs.YtkkolioolgpljaaGreat.GFnHops
