-- Laid by gen.py of this session (over the kit's printing program): what the law FnHops reaches, as Lean functions, and that Go comes to just that.
import Derived.Test.YtkkolioolgpljaaGreatGFnHopsx0
import Derived.Test.YtkkolioolgpljaaGreatGFnHopsx4
import Derived.Test.YtkkolioolgpljaaGreatGFnHopsx5
import Derived.Test.YtkkolioolgpljaaGreatGFnHopsx6
import Derived.Test.YtkkolioolgpljaaGreatZFnHops
namespace Go.Proofs.YtkkolioolgpljaaGreat.GFnHops
open Go.RowKit Go.Proofs.YtkkolioolgpljaaGreatW.PrintWords Go.Proofs.YtkkolioolgpljaaGreatW.PrintLast Go.Proofs.YtkkolioolgpljaaGreatW.PrintMore Go.Proofs.YtkkolioolgpljaaGreatW.Zs
attribute [local go_sem] max2_int min2_int max_two min_two max_three min_three max_four min_four   -- for this text's walks alone
set_option linter.unusedVariables false
set_option linter.unusedSimpArgs false

/-! ### impl_EndToEnd: function 5 -/
theorem impl_EndToEnd.bb {w W : World} {g : Nat} {o : Obj} (h : w.heap[g]? = some o) (hb : Below w.heap.size w W) : W.heap[g]? = some o := (hb.block g (by
 rcases Nat.lt_or_ge g w.heap.size with h' | h'
 ·exact h'
 ·simp [Array.getElem?_eq_none h'] at h)).trans h
theorem impl_EndToEnd.has (v : Value) (base : Nat) (hs : List ByteArray) (u : ByteArray) (w : World) (hr : Kd.R Kd.string 9 w base (fun _ => True) v hs) :
  Calls Tryz.prog 15 #[v, .string u] w fun e w' => e = .returned (.bool (Go.Lib.containsS hs u)) ∧ w' = w := by
 have hown := Kd.own_of_R hr
 rcases hown.2 with ⟨hv, hn⟩ | ⟨g, cap, cur, hv, hg, hh, hnc, hcm, hcs, htk⟩
 ·subst hv; obtain rfl := List.length_eq_zero_iff.mp hn; exact Tryz.slices_Contains_string_empty none 0 u w
 ·subst hv; have hC := (Kd.R_reads' hr).2.2; have hR := Kd.reads_of_C (d := ByteArray.empty) hC
  have hcell : ∀ j, j < hs.length → w.cell? ⟨g, 0 + j, none⟩ = some (.string (hs.getD j ByteArray.empty)) := by
   intro j hj; obtain ⟨ad, e, hc⟩ := hR.2.2 (by omega); cases e; have h_ := hc j hj
   by_cases hj0 : j = 0
   ·subst hj0; simpa [Addr.add] using h_
   ·simpa [Addr.add, hj0] using h_
  have h := Tryz.slices_Contains_string g 0 hs.length cap hs u w (Nat.le_refl _) hR.2.1 hcell; rw [List.take_length] at h; exact h
def impl_EndToEnd.ask (s : ByteArray) (hs : List ByteArray) : Option Bool := (impl_Fold.f s).bind fun u => some (Go.Lib.containsS hs u)
set_option maxHeartbeats 8000000 in
set_option maxRecDepth 100000 in
theorem impl_EndToEnd.clos (s : ByteArray) (v : Value) (base : Nat) (hs : List ByteArray) (t : Bool) (gn : Nat) (w : World) (hg : w.heap[gn]? = some (.cells #[v] 26 (0, 0))) (hr : Kd.R Kd.string 9 w base (fun _ => True) v hs) (h : impl_EndToEnd.ask s hs = some t) :
  Calls Tryz.prog 14 #[.string s, .pointer (some ⟨gn, 0, none⟩)] w fun e w' => e = .returned (.bool (!t)) ∧ Below w.heap.size w w' := by
 obtain ⟨u, hu, ht⟩ := Option.bind_eq_some_iff.mp h; obtain rfl := Option.some.inj ht; clear h ht; have hc0 : w.drew.cell? ⟨gn, 0, none⟩ = some v := (blk_cell hg 0).trans rfl; have hb0 : Aside0 (Below w.heap.size w w.drew) := ⟨below_drew1 (Below.refl _ _)⟩; have hS0 : w.drew.cell? ⟨gn, 0, none⟩ = some v ∧ Aside0 (Below w.heap.size w w.drew) := ⟨hc0, hb0⟩
 have hFc : ∀ w1 : World, w1.cell? ⟨gn, 0, none⟩ = some v ∧ Aside0 (Below w.heap.size w w1) → Calls Tryz.prog 16 #[.string s] w1 fun e w' => e = .returned (.string u) ∧ (w'.cell? ⟨gn, 0, none⟩ = some v ∧ Aside0 (Below w.heap.size w w')) := by
  rintro w1 ⟨_, h2⟩; refine (impl_Fold.calls s u w1 hu).mono ?_; rintro e w' ⟨rfl, hb⟩; have hbb : Below w.heap.size w w' := below_step h2.out hb; exact ⟨rfl, (blk_cell (impl_EndToEnd.bb hg hbb) 0).trans rfl, ⟨hbb⟩⟩
 have hCc : ∀ w1 : World, w1.cell? ⟨gn, 0, none⟩ = some v ∧ Aside0 (Below w.heap.size w w1) → Calls Tryz.prog 15 #[v, .string u] w1 fun e w' => e = .returned (.bool (Go.Lib.containsS hs u)) ∧ (w'.cell? ⟨gn, 0, none⟩ = some v ∧ Aside0 (Below w.heap.size w w')) := by
  rintro w1 ⟨h1, h2⟩; have hr1 := Kd.R_below hr h2.out; refine (impl_EndToEnd.has v base hs u w1 hr1).mono ?_; rintro e w' ⟨rfl, rfl⟩; exact ⟨rfl, h1, h2⟩
 go_enter Tryz.func14, Tryz.ntmps14
 go_wp2_with fail
 go_region_held3 (fun w' => w'.cell? ⟨gn, 0, none⟩ = some v ∧ Aside0 (Below w.heap.size w w')) (first | assumption | exact ⟨hc0, hb0⟩ | go_keep)
  (first | (go_at_call 16; refine (hFc _ ?_).mono ?_; assumption; rintro e w' ⟨rfl, hs_⟩) | (go_at_call 15; refine (hCc _ ?_).mono ?_; assumption; rintro e w' ⟨rfl, hs_⟩))
 go_wp2
 go_ret; exact ⟨rfl, hs_.2.out⟩
def impl_EndToEnd.l0 : Nat → List ByteArray → List (S30) → List (S30) → Int → Int → Option ((List (S30)))
 | 0, _, _, _, _, _ => none
 | k + 1, x1, x5, x11, x12, x13 => if x13 < x12 then (if 0 ≤ x13 then (if x13 < (x11.length : Int) then ((impl_EndToEnd.ask ((rd_T30 x11 x13).f0) x1).bind fun t427 => (if t427 = true then (impl_EndToEnd.l0 k x1 x5 x11 x12 (wrap64 (x13 + 1))) else (if x5.length < 4398046511104 then (impl_EndToEnd.l0 k x1 (x5 ++ [(⟨(rd_T30 x11 x13).f0, (rd_T30 x11 x13).f1⟩ : S30)]) x11 x12 (wrap64 (x13 + 1))) else (none)))) else (none)) else (none)) else (some x5)
def impl_EndToEnd.g (k : Nat) (l0 : List (S30)) (a1 : List ByteArray) : Option ((List (S30))) := (impl_FieldsOk.f k l0).bind fun t424 => (if t424 = true then (impl_EndToEnd.l0 k a1 ([] : List (S30)) l0 (l0.length : Int) 0) else (some ([] : List (S30))))
theorem impl_EndToEnd.mono_l : ∀ k, (∀ y0 y1 y2 y3 y4, LeO (impl_EndToEnd.l0 k y0 y1 y2 y3 y4) (impl_EndToEnd.l0 (k + 1) y0 y1 y2 y3 y4))
 | 0 => fun _ _ _ _ _ r h => by simp [impl_EndToEnd.l0] at h
 | k + 1 => by
  have ih0 := impl_EndToEnd.mono_l k
  ·intro y0 y1 y2 y3 y4; unfold impl_EndToEnd.l0
   repeat' first | (with_reducible first | exact ih0 _ _ _ _ _ | exact impl_FieldsOk.mono _ _ | exact LeO.refl _ | exact LeO.none _ | refine LeO.ite ?_ ?_ | refine LeO.bind ?_ (fun _ => ?_)) | exact ih0 _ _ _ _ _ | exact impl_FieldsOk.mono _ _ | exact LeO.none _ | refine LeO.ite ?_ ?_ | refine LeO.bind ?_ (fun _ => ?_)
theorem impl_EndToEnd.mono_g : ∀ a0 a1 k, LeO (impl_EndToEnd.g k a0 a1) (impl_EndToEnd.g (k + 1) a0 a1) := by
 intro a0 a1 k; have ih0 := impl_EndToEnd.mono_l k; unfold impl_EndToEnd.g
 repeat' first | (with_reducible first | exact ih0 _ _ _ _ _ | exact impl_FieldsOk.mono _ _ | exact LeO.refl _ | exact LeO.none _ | refine LeO.ite ?_ ?_ | refine LeO.bind ?_ (fun _ => ?_)) | exact ih0 _ _ _ _ _ | exact impl_FieldsOk.mono _ _ | exact LeO.none _ | refine LeO.ite ?_ ?_ | refine LeO.bind ?_ (fun _ => ?_)
set_option maxHeartbeats 8000000 in
set_option maxRecDepth 100000 in
theorem impl_EndToEnd.kept (k : Nat) (A0 : Option Addr) (c0 : Nat) (l0 : List (S30)) (v1 : Value) (base : Nat) (a1 : List ByteArray) (r : List (S30)) (gn : Nat) (w : World) (hgn : w.heap[gn]? = some (.cells #[v1] 26 (0, 0))) (hrv : Kd.R Kd.string 9 w base (fun _ => True) v1 a1) (hr0 : Kd.C k30 w A0 l0.length l0) (hc0 : l0.length ≤ c0) (h : impl_EndToEnd.g k l0 a1 = some r) :
  Calls Tryz.prog 13 #[.slice A0 l0.length c0, .func (.func 14) #[] #[.pointer (some ⟨gn, 0, none⟩)]] w fun e w' => ∃ v0_ : Value, e = .returned (v0_) ∧ Kd.R k30 30 w' w.heap.size (fun _ => True) v0_ r ∧ Below w.heap.size w w' := by
 have hu30 := Tryz.underlying30; have HR0 := Aside0.mk hr0; have HC0 := Aside0.mk hc0; clear hr0 hc0; have HB := Aside0.mk (Below.refl w.heap.size w); have BN := Aside0.mk hgn; have HRV := Aside0.mk hrv; clear hgn hrv; have H : ((impl_FieldsOk.f k l0).bind fun t424 => (if t424 = true then (impl_EndToEnd.l0 k a1 ([] : List (S30)) l0 (l0.length : Int) 0) else (some ([] : List (S30))))) = some r := h; clear h; replace H := Option.bind_eq_some_iff.mp H; obtain ⟨t424, A30, H⟩ := H; (try dsimp only at H); have A3 := Aside0.mk A30; clear A30; have HC4 := Aside0.mk H; clear H; go_enter Tryz.func13, Tryz.ntmps13
 go_upto_if 10 with (first | ((with_reducible refine gate_callee (f := 28) rfl ?_); refine goesQ_ 9 Tryz.func28 #[.slice A0 l0.length c0] ?_; (with_reducible refine (impl_FieldsOk.calls k _ _ l0 t424 _ ?side1 ?side2 A3.out).mono ?_); (case side1 => repeat (first | exact HR0.out | (with_reducible refine Kd.C_alloc ?_ _) | (with_reducible refine Kd.C_drewN ?_ _) | (with_reducible refine Kd.C_drew ?_))); (case side2 => exact HC0.out); rintro e w5 ⟨rfl, hb⟩; refine ⟨_, rfl, ?_⟩; replace HB := Aside0.mk (below_step zz0 hb); (try clear hb)))
 have H := HC4.out; clear HC4
 by_cases c6 : t424 = true
 ·subst c6; rw [if_pos rfl] at H; have H' := Aside0.mk H; clear H; go_wp2
  go_loopg [5, 13] k (fun kq v5 v13 w' => ∃ (x5_1 : List (S30)) (x13_1 : Int), v13 = .int .i64 x13_1 ∧ Aside0 (impl_EndToEnd.l0 kq a1 x5_1 l0 (l0.length : Int) x13_1 = some r) ∧ Aside0 (kq ≤ k) ∧ Aside0 (Kd.R k30 30 w' w.heap.size (fun _ => True) v5 x5_1) ∧ Aside0 (Below w.heap.size w w'))
  case atStart => exact ⟨(([] : List (S30))), (0), zz3, H', ⟨Nat.le_refl _⟩, ⟨zz12⟩, ⟨zz0⟩⟩
  case round =>
   clear H'; (try clear c1); (try clear p2); (try clear c6); obtain ⟨x5_1, x13_1, rfl, HA, HK1, HO_5, HB⟩ := hrel
   cases gk with
   | zero => exact absurd HA.out (by simp [impl_EndToEnd.l0])
   | succ k1 =>
    have H := HA.out; clear HA; simp only [impl_EndToEnd.l0] at H
    by_cases c7 : x13_1 < (l0.length : Int)
    ·rw [if_pos c7] at H; have c7b0 : decide (x13_1 < (l0.length : Int)) = true := decide_eq_true c7; clear c7; (first | rw [c7b0] | (simp only [i64_w, i32_w]; rw [c7b0]) | skip)
     by_cases c8 : 0 ≤ x13_1
     ·rw [if_pos c8] at H; have c8b0 : decide (0 ≤ x13_1) = true := decide_eq_true c8; clear c8
      by_cases c9 : x13_1 < (l0.length : Int)
      ·rw [if_pos c9] at H; have c9b0 : decide (x13_1 < (l0.length : Int)) = true := decide_eq_true c9; clear c9; replace H := Option.bind_eq_some_iff.mp H; obtain ⟨t427, A100, H⟩ := H; (try dsimp only at H); have A10 := Aside0.mk A100; clear A100; have HC11 := Aside0.mk H; clear H; have p425 : 0 ≤ (x13_1 : Int) := of_decide_eq_true zz6; have q425 : x13_1 < (l0.length : Int) := of_decide_eq_true zz6; obtain ⟨ad425, e425, W425⟩ := at_T30 HR0.out x13_1 p425 q425; cases e425; obtain ⟨hx425_0, hx425_1⟩ := El30.up HB.out W425; replace p425 := eq_true p425; replace q425 := eq_true q425; go_upto_if 20 with (first | ((with_reducible refine gate_dst (N := 7) rfl ?_); refine boxP_ (N := 7) (cs := #[.string (⟨#[]⟩ : ByteArray), .string (⟨#[]⟩ : ByteArray)]) (t := 30) ?_; intro gb426 hg w12 hbox hb; replace HO_5 := Aside0.mk (Kd.R_below (Kd.R_elderB zz9 gb426 (Nat.le_of_eq hg.symm)) hb); have BK426 := Aside0.mk (hbox); have GE426 := geb_ (w := w) hg zz0; replace HB := Aside0.mk (below_step zz0 hb); clear hb hbox hg; obtain ⟨_, _, _, _⟩ := cells2_ BK426.out) | (go_at_call 14; (with_reducible refine (impl_EndToEnd.clos ((rd_T30 l0 x13_1).f0) v1 base a1 t427 gn _ (impl_EndToEnd.bb BN.out zz17) (Kd.R_below HRV.out zz17) A10.out).mono ?_); rintro e w14 ⟨rfl, hb⟩; have n0_ := Aside0.mk (Kd.R_below (by (with_reducible repeat (first | apply Kd.R_alloc | apply Kd.R_drewN | apply Kd.R_drew)); exact (Kd.R_mono (Kd.R_far (p := ⟨gb426, 1, none⟩) (Kd.R_far (p := ⟨gb426, 0, none⟩) (Kd.R_mono HO_5.out (fun k_ hk => (⟨hk, hk.2⟩ : _ ∧ k_ ≠ gb426))) (fun _ hk => hk.2) (.string ((rd_T30 l0 x13_1).f0))) (fun _ hk => hk.2) (.string ((rd_T30 l0 x13_1).f1))) (fun _ h_ => h_.1))) hb); have n1_ := Aside0.mk (blk_below (g := gb426) (o := .cells #[.string ((rd_T30 l0 x13_1).f0), .string ((rd_T30 l0 x13_1).f1)] 30 (0, 0)) (by (with_reducible repeat (first | refine blk_drewN ?_ _ | refine blk_drew ?_ | refine blk_alloc ?_ _)); refine blk_put (cs := #[.string ((rd_T30 l0 x13_1).f0), .string (⟨#[]⟩ : ByteArray)]) ?_ 1 _ rfl; (with_reducible repeat (first | refine blk_drewN ?_ _ | refine blk_drew ?_ | refine blk_alloc ?_ _)); refine blk_put (cs := #[.string (⟨#[]⟩ : ByteArray), .string (⟨#[]⟩ : ByteArray)]) ?_ 0 _ rfl; (with_reducible repeat (first | refine blk_drewN ?_ _ | refine blk_drew ?_ | refine blk_alloc ?_ _)); exact BK426.out) hb); have n2_ := Aside0.mk (below_step zz17 hb); clear HO_5; clear BK426; clear HB; have HO_5 := n0_; have BK426 := n1_; have HB := n2_; clear n0_ n1_ n2_; (try clear hb); (try clear hb2); (try clear hk); (try clear hi)))
       have H := HC11.out; clear HC11
       by_cases c15 : t427 = true
       ·subst c15; rw [if_pos rfl] at H; have H' := Aside0.mk H; clear H; go_wp2
        go_roundg k1
        (case measure => have := HK1.out; omega); case rel => exact ⟨(x5_1), (wrap64 (x13_1 + 1)), zz3, H', ⟨zz24⟩, ⟨by (with_reducible repeat (first | apply Kd.R_alloc | apply Kd.R_drewN | apply Kd.R_drew)); exact Kd.R_mono HO_5.out (fun _ hk => trivial)⟩, ⟨zz17⟩⟩
       ·replace c15 := Bool.eq_false_iff.mpr c15; subst c15; rw [if_neg Bool.false_ne_true] at H
        by_cases c16 : x5_1.length < 4398046511104
        ·rw [if_pos c16] at H; have LMc16 := Aside0.mk c16; clear c16; obtain ⟨y428, hy428⟩ : ∃ y_ : List (S30), y_ = (x5_1 ++ [(⟨(rd_T30 l0 x13_1).f0, (rd_T30 l0 x13_1).f1⟩ : S30)]) := ⟨_, rfl⟩; replace H : (impl_EndToEnd.l0 k1 a1 y428 l0 (l0.length : Int) (wrap64 (x13_1 + 1))) = some r := by first | (rw [hy428]; with_reducible exact H) | (have H2_ := (Option.bind_some _ _).symm.trans H; rw [hy428]; with_reducible exact H2_) | (have H2_ := (Option.bind_some _ _).symm.trans H; with_reducible exact H2_) | with_reducible exact H | (rw [hy428]; exact H) | exact H
         have Ny428 := Aside0.mk hy428; clear hy428; have H' := Aside0.mk H; clear H; obtain ⟨_, _, _, _⟩ := cells2_ BK426.out; go_wp2_with (first | ((with_reducible refine gate_builtin (b := .append) (xs := #[.tmp 21, .tmp 23]) rfl ?_); at_builtin; refine Kd.R_append k30 (w0 := w) w.heap.size rfl (.tmp 21) (.tmp 23) 23 30 (.agg #[(.string ⟨#[]⟩), (.string ⟨#[]⟩)]) 32 rfl Tryz.underlying23 info30 rfl (by decide) (by omega) u5 x5_1 (⟨(rd_T30 l0 x13_1).f0, (rd_T30 l0 x13_1).f1⟩ : S30) [.string ((rd_T30 l0 x13_1).f0), .string ((rd_T30 l0 x13_1).f1)] (fun k_ => k_ ≠ gb426) (fun _ => False) rfl rfl ?aP (fun _ hk => hk.elim) ?aF ?aO ?aB ?aS ?aL ?_; (case aP => exact k30_mkM _ _ _ (⟨(rd_T30 l0 x13_1).f0, (rd_T30 l0 x13_1).f1⟩ : S30)); (case aB => exact zz17); (case aF => exact (fun k_ hk => Kd.freshB (g := gb426) (o := .cells #[.string ((rd_T30 l0 x13_1).f0), .string ((rd_T30 l0 x13_1).f1)] 30 (0, 0)) (by (with_reducible repeat (first | refine blk_drewN ?_ _ | refine blk_drew ?_ | refine blk_alloc ?_ _)); exact BK426.out) k_ hk)); (case aO => exact (by (with_reducible repeat (first | apply Kd.R_alloc | apply Kd.R_drewN | apply Kd.R_drew)); exact Kd.R_mono HO_5.out (fun _ hk => hk.2))); (case aS => exact (below_size zz17)); (case aL => have := LMc16.out; omega); intro v429 w18 ho hb hg hat; rw [← Ny428.out] at ho; replace BK426 := Aside0.mk (blk_grown (g := gb426) (o := .cells #[.string ((rd_T30 l0 x13_1).f0), .string ((rd_T30 l0 x13_1).f1)] 30 (0, 0)) (by (with_reducible repeat (first | refine blk_drewN ?_ _ | refine blk_drew ?_ | refine blk_alloc ?_ _)); exact BK426.out) hg (Kd.R_away HO_5.out (fun _ hk => hk.2))); replace HB := Aside0.mk (hb); have HO430 := Aside0.mk (ho); clear HO_5; clear ho hb hg hat))
         go_roundg k1
         (case measure => have := HK1.out; omega); case rel => exact ⟨(y428), (wrap64 (x13_1 + 1)), zz3, H', ⟨zz24⟩, ⟨by (with_reducible repeat (first | apply Kd.R_alloc | apply Kd.R_drewN | apply Kd.R_drew)); exact Kd.R_mono HO430.out (fun _ hk => trivial)⟩, ⟨zz17⟩⟩
        ·rw [if_neg c16] at H; exact absurd H (by simp)
      ·rw [if_neg c9] at H; exact absurd H (by simp)
     ·rw [if_neg c8] at H; exact absurd H (by simp)
    ·rw [if_neg c7] at H; have c7b0 : decide (x13_1 < (l0.length : Int)) = false := decide_eq_false c7; clear c7; (first | rw [c7b0] | (simp only [i64_w, i32_w]; rw [c7b0]) | skip); obtain rfl := Option.some.inj H; go_wp2
     go_ret; exact ⟨_, zz4, zz9, zz0⟩
 ·replace c6 := Bool.eq_false_iff.mpr c6; subst c6; rw [if_neg Bool.false_ne_true] at H; obtain rfl := Option.some.inj H; go_wp2
  go_ret; exact ⟨_, zz4, zz12, zz0⟩
def impl_EndToEnd.f (k : Nat) (l0 : List (S30)) : Option ((List (S30))) := (impl_HopNames.f k l0).bind fun hs => impl_EndToEnd.g k l0 hs
theorem impl_EndToEnd.mono : ∀ a0 k, LeO (impl_EndToEnd.f k a0) (impl_EndToEnd.f (k + 1) a0) := by
 intro a0 k; unfold impl_EndToEnd.f; exact LeO.bind (impl_HopNames.mono _ _) (fun _ => impl_EndToEnd.mono_g _ _ _)
set_option maxHeartbeats 8000000 in
set_option maxRecDepth 100000 in
theorem impl_EndToEnd.calls (k : Nat) (A0 : Option Addr) (c0 : Nat) (l0 : List (S30)) (r : List (S30)) (w : World) (hr0 : Kd.C k30 w A0 l0.length l0) (hc0 : l0.length ≤ c0) (h : impl_EndToEnd.f k l0 = some r) :
  Calls Tryz.prog 5 #[.slice A0 l0.length c0] w fun e w' => ∃ v0_ : Value, e = .returned (v0_) ∧ Kd.R k30 30 w' w.heap.size (fun _ => True) v0_ r ∧ Below w.heap.size w w' := by
 obtain ⟨hs, hh, hr⟩ := Option.bind_eq_some_iff.mp h; have HR0 := Aside0.mk hr0; have HC0 := Aside0.mk hc0; have A1 := Aside0.mk hh; have A2 := Aside0.mk hr; have HB := Aside0.mk (Below.refl w.heap.size w); clear hr0 hc0 h hh hr; go_enter Tryz.func5, Tryz.ntmps5
 go_wp2_with (first | (go_at_call 12; (with_reducible refine (impl_HopNames.calls k A0 c0 l0 hs _ ?side1 HC0.out A1.out).mono ?_); (case side1 => repeat (first | exact HR0.out | (with_reducible refine Kd.C_alloc ?_ _) | (with_reducible refine Kd.C_drewN ?_ _) | (with_reducible refine Kd.C_drew ?_))); rintro e wH ⟨vH, rfl, hoH, hbH⟩; obtain ⟨AH, cH, eH⟩ := Kd.R_slice hoH; subst eH; have HOH := Aside0.mk hoH; have HBH := Aside0.mk hbH; clear hoH hbH) | ((with_reducible refine gate_dst (N := 3) rfl ?_); refine boxP_ (N := 3) (cs := #[.slice none 0 0]) (t := 26) ?_; intro gn hg w1 hbox hb; have BN := Aside0.mk hbox; have HO1 := Aside0.mk (Kd.R_below (Kd.R_elderB HOH.out gn (Nat.le_of_eq hg.symm)) hb); have GE := Aside0.mk ((by rw [hg]; exact below_size HBH.out) : w.heap.size ≤ gn); have HB1 := Aside0.mk (below_step HBH.out hb); clear hbox hb hg; have hcz0 : w1.cell? ⟨gn, 0, none⟩ = some (.slice none 0 0) := (blk_cell BN.out 0).trans rfl; have hfz0 := blk_frozen BN.out 0) | (go_at_call 13; (with_reducible refine (impl_EndToEnd.kept k A0 c0 l0 (.slice AH hs.length cH) w.heap.size hs r gn _ ?side1 ?side2 ?side3 HC0.out A2.out).mono ?_); (case side1 => (with_reducible repeat (first | refine blk_drewN ?_ _ | refine blk_drew ?_ | refine blk_alloc ?_ _)); refine blk_put (cs := #[.slice none 0 0]) ?_ 0 _ rfl; exact BN.out); (case side2 => exact Kd.R_mono (Kd.R_far (p := ⟨gn, 0, none⟩) (Kd.R_mono HO1.out (fun k_ hk => (⟨hk, hk.2⟩ : _ ∧ k_ ≠ gn))) (fun _ hk => hk.2) (.slice AH hs.length cH)) (fun _ _ => trivial)); (case side3 => exact Kd.C_below HR0.out (below_set HB1.out GE.out)); rintro e w2 ⟨v0, rfl, ho, hb⟩; have HO := Aside0.mk ho; have HB2 := Aside0.mk hb; clear ho hb))
 go_ret; exact ⟨_, rfl, Kd.R_lower HO.out (below_size (below_set HB1.out GE.out)), below_step (below_set HB1.out GE.out) HB2.out⟩


/-! ### spec_l1lower: function 40 -/
def spec_l1lower.f (a0 : Int) : Option (Int) := if a0 ≥ 65 then (if a0 ≤ 90 then (some ((a0 + 32) % 256)) else (some a0)) else (some a0)
set_option maxHeartbeats 40000000 in
set_option maxRecDepth 100000 in
theorem spec_l1lower.calls (a0 : Int) (r : Int) (w : World) (h : spec_l1lower.f a0 = some r) :
  Calls Tryz.prog 40 #[.int .u8 a0] w fun e w' => e = .returned (.int .u8 r) ∧ Drawn0 w w' := by
 have H : (if a0 ≥ 65 then (if a0 ≤ 90 then (some ((a0 + 32) % 256)) else (some a0)) else (some a0)) = some r := h; clear h
 by_cases c2 : a0 ≥ 65
 ·rw [if_pos c2] at H; have c2b0 : decide (65 ≤ a0) = true := decide_eq_true c2; clear c2
  by_cases c3 : a0 ≤ 90
  ·rw [if_pos c3] at H; have c3b0 : decide (a0 ≤ 90) = true := decide_eq_true c3; clear c3; obtain rfl := Option.some.inj H; go_enter Tryz.func40, Tryz.ntmps40
   go_wp2
   go_ret; exact ⟨zz3, zz8⟩
  ·rw [if_neg c3] at H; have c3b0 : decide (a0 ≤ 90) = false := decide_eq_false c3; clear c3; obtain rfl := Option.some.inj H; go_enter Tryz.func40, Tryz.ntmps40
   go_wp2
   go_ret; exact ⟨zz3, zz8⟩
 ·rw [if_neg c2] at H; have c2b0 : decide (65 ≤ a0) = false := decide_eq_false c2; clear c2; obtain rfl := Option.some.inj H; go_enter Tryz.func40, Tryz.ntmps40
  go_wp2
  go_ret; exact ⟨zz3, zz8⟩

/-! ### spec_l1digit: function 57 -/
def spec_l1digit.f (a0 : Int) : Option (Bool) := if a0 ≥ 48 then (some (decide (a0 ≤ 57))) else (some false)
set_option maxHeartbeats 40000000 in
set_option maxRecDepth 100000 in
theorem spec_l1digit.calls (a0 : Int) (r : Bool) (w : World) (h : spec_l1digit.f a0 = some r) :
  Calls Tryz.prog 57 #[.int .u8 a0] w fun e w' => e = .returned (.bool r) ∧ Drawn0 w w' := by
 have H : (if a0 ≥ 48 then (some (decide (a0 ≤ 57))) else (some false)) = some r := h; clear h
 by_cases c2 : a0 ≥ 48
 ·rw [if_pos c2] at H; have c2b0 : decide (48 ≤ a0) = true := decide_eq_true c2; clear c2; obtain rfl := Option.some.inj H; go_enter Tryz.func57, Tryz.ntmps57
  go_wp2
  go_ret; exact ⟨zz3, zz8⟩
 ·rw [if_neg c2] at H; have c2b0 : decide (48 ≤ a0) = false := decide_eq_false c2; clear c2; obtain rfl := Option.some.inj H; go_enter Tryz.func57, Tryz.ntmps57
  go_wp2
  go_ret; exact ⟨zz3, zz8⟩

/-! ### spec_l1has: function 58 -/
def spec_l1has.l0 : Nat → ByteArray → Int → Int → Option (Bool)
 | 0, _, _, _ => none
 | k + 1, x0, x1, x5 => if x5 < (x0.size : Int) then (if 0 ≤ x5 then (if (bt x0 x5) = x1 then (some true) else (spec_l1has.l0 k x0 x1 (wrap64 (x5 + 1)))) else (none)) else (some false)
def spec_l1has.f (k : Nat) (a0 : ByteArray) (a1 : Int) : Option (Bool) := spec_l1has.l0 k a0 a1 0
theorem spec_l1has.mono_l : ∀ k, (∀ y0 y1 y2, LeO (spec_l1has.l0 k y0 y1 y2) (spec_l1has.l0 (k + 1) y0 y1 y2))
 | 0 => fun _ _ _ r h => by simp [spec_l1has.l0] at h
 | k + 1 => by
  have ih0 := spec_l1has.mono_l k
  ·intro y0 y1 y2; unfold spec_l1has.l0
   repeat' first | (with_reducible first | exact ih0 _ _ _ | exact LeO.refl _ | exact LeO.none _ | refine LeO.ite ?_ ?_ | refine LeO.bind ?_ (fun _ => ?_)) | exact ih0 _ _ _ | exact LeO.none _ | refine LeO.ite ?_ ?_ | refine LeO.bind ?_ (fun _ => ?_)
theorem spec_l1has.mono : ∀ a0 a1 k, LeO (spec_l1has.f k a0 a1) (spec_l1has.f (k + 1) a0 a1) := by
 intro a0 a1 k; have ih0 := spec_l1has.mono_l k; unfold spec_l1has.f
 repeat' first | (with_reducible first | exact ih0 _ _ _ | exact LeO.refl _ | exact LeO.none _ | refine LeO.ite ?_ ?_ | refine LeO.bind ?_ (fun _ => ?_)) | exact ih0 _ _ _ | exact LeO.none _ | refine LeO.ite ?_ ?_ | refine LeO.bind ?_ (fun _ => ?_)
set_option maxHeartbeats 40000000 in
set_option maxRecDepth 100000 in
theorem spec_l1has.calls (k : Nat) (a0 : ByteArray) (a1 : Int) (r : Bool) (w : World) (h : spec_l1has.f k a0 a1 = some r) :
  Calls Tryz.prog 58 #[.string a0, .int .u8 a1] w fun e w' => e = .returned (.bool r) ∧ Drawn0 w w' := by
 have H : (spec_l1has.l0 k a0 a1 0) = some r := h; clear h; have H' := Aside0.mk H; clear H; go_enter Tryz.func58, Tryz.ntmps58
 go_wp2
 go_loopg [5] k (fun kq v5 w' => ∃ (x5_1 : Int), v5 = .int .i64 x5_1 ∧ Aside0 (spec_l1has.l0 kq a0 a1 x5_1 = some r) ∧ Aside0 (kq ≤ k) ∧ Drawn0 w w')
 case atStart => exact ⟨(0), zz3, H', ⟨Nat.le_refl _⟩, zz8⟩
 case round =>
  clear H'; (try clear p2); obtain ⟨x5_1, rfl, HA, HK1, ⟨m1, rfl⟩⟩ := hrel
  cases gk with
  | zero => exact absurd HA.out (by simp [spec_l1has.l0])
  | succ k1 =>
   have H := HA.out; clear HA; simp only [spec_l1has.l0] at H
   by_cases c3 : x5_1 < (a0.size : Int)
   ·rw [if_pos c3] at H; have c3b0 : decide (x5_1 < (a0.size : Int)) = true := decide_eq_true c3; clear c3
    by_cases c4 : 0 ≤ x5_1
    ·rw [if_pos c4] at H; have c4b0 : decide (0 ≤ x5_1) = true := decide_eq_true c4; clear c4
     by_cases c6 : (bt a0 x5_1) = a1
     ·rw [if_pos c6] at H; have c6b0 : ((bt a0 x5_1) == a1) = true := beq_iff_eq.mpr c6; have c6b1 : ((bt a0 x5_1) != a1) = false := bne_eq_false_iff_eq.mpr c6; clear c6; obtain rfl := Option.some.inj H; have p5 : 0 ≤ (x5_1 : Int) := of_decide_eq_true zz6; have q5 : x5_1 < (a0.size : Int) := of_decide_eq_true zz6; have hx5 := bt_at a0 x5_1; replace p5 := eq_true p5; replace q5 := eq_true q5; go_wp2
      go_ret; exact ⟨zz3, zz8⟩
     ·rw [if_neg c6] at H; have c6b0 : ((bt a0 x5_1) == a1) = false := beq_eq_false_iff_ne.mpr c6; have c6b1 : ((bt a0 x5_1) != a1) = true := bne_iff_ne.mpr c6; have H' := Aside0.mk H; clear H; have p5 : 0 ≤ (x5_1 : Int) := of_decide_eq_true zz6; have q5 : x5_1 < (a0.size : Int) := of_decide_eq_true zz6; have hx5 := bt_at a0 x5_1; replace p5 := eq_true p5; replace q5 := eq_true q5; go_wp2
      go_roundg k1
      (case measure => have := HK1.out; omega); case rel => exact ⟨(wrap64 (x5_1 + 1)), zz3, H', ⟨zz24⟩, zz8⟩
    ·rw [if_neg c4] at H; exact absurd H (by simp)
   ·rw [if_neg c3] at H; have c3b0 : decide (x5_1 < (a0.size : Int)) = false := decide_eq_false c3; clear c3; obtain rfl := Option.some.inj H; go_wp2
    go_ret; exact ⟨zz3, zz8⟩

/-! ### spec_l1tchar: function 38 -/
def spec_l1tchar.f (k : Nat) (a0 : Int) : Option (Bool) := (spec_l1lower.f a0).bind fun t268 => (if t268 ≥ 97 then (if t268 ≤ 122 then (some true) else ((spec_l1digit.f a0).bind fun t269 => (if t269 = true then (some true) else (if a0 = 96 then (some true) else ((spec_l1has.f k (⟨#[33, 35, 36, 37, 38, 39, 42, 43, 45, 46, 94, 95, 124, 126]⟩ : ByteArray) a0).bind fun t270 => (some t270)))))) else ((spec_l1digit.f a0).bind fun t271 => (if t271 = true then (some true) else (if a0 = 96 then (some true) else ((spec_l1has.f k (⟨#[33, 35, 36, 37, 38, 39, 42, 43, 45, 46, 94, 95, 124, 126]⟩ : ByteArray) a0).bind fun t272 => (some t272))))))
theorem spec_l1tchar.mono : ∀ a0 k, LeO (spec_l1tchar.f k a0) (spec_l1tchar.f (k + 1) a0) := by
 intro a0 k; unfold spec_l1tchar.f
 repeat' first | (with_reducible first | exact spec_l1has.mono _ _ _ | exact LeO.refl _ | exact LeO.none _ | refine LeO.ite ?_ ?_ | refine LeO.bind ?_ (fun _ => ?_)) | exact spec_l1has.mono _ _ _ | exact LeO.none _ | refine LeO.ite ?_ ?_ | refine LeO.bind ?_ (fun _ => ?_)
set_option maxHeartbeats 40000000 in
set_option maxRecDepth 100000 in
theorem spec_l1tchar.calls (k : Nat) (a0 : Int) (r : Bool) (w : World) (h : spec_l1tchar.f k a0 = some r) :
  Calls Tryz.prog 38 #[.int .u8 a0] w fun e w' => e = .returned (.bool r) ∧ Drawn0 w w' := by
 have H : ((spec_l1lower.f a0).bind fun t268 => (if t268 ≥ 97 then (if t268 ≤ 122 then (some true) else ((spec_l1digit.f a0).bind fun t269 => (if t269 = true then (some true) else (if a0 = 96 then (some true) else ((spec_l1has.f k (⟨#[33, 35, 36, 37, 38, 39, 42, 43, 45, 46, 94, 95, 124, 126]⟩ : ByteArray) a0).bind fun t270 => (some t270)))))) else ((spec_l1digit.f a0).bind fun t271 => (if t271 = true then (some true) else (if a0 = 96 then (some true) else ((spec_l1has.f k (⟨#[33, 35, 36, 37, 38, 39, 42, 43, 45, 46, 94, 95, 124, 126]⟩ : ByteArray) a0).bind fun t272 => (some t272))))))) = some r := h; clear h; replace H := Option.bind_eq_some_iff.mp H; obtain ⟨t268, A20, H⟩ := H; (try dsimp only at H); have A2 := Aside0.mk A20; clear A20; have HC3 := Aside0.mk H; clear H; go_enter Tryz.func38, Tryz.ntmps38
 repeat' (first | (go_big_may; (first | ((with_reducible refine gate_callee (f := 40) rfl ?_); refine goesR_ 5 Tryz.func40 #[.int .u8 a0] (spec_l1lower.calls a0 t268 _ A2.out) ?_; rintro w' ⟨nd, rfl⟩))) | go_values | go_skip | go_big_skip | go_big_want | ((first | (with_reducible refine gate_nog rfl ?_) | (fail_if_success with_reducible refine gate_any ?_)); go_step) | go_upon | simp only [Bool.not_true, Bool.not_false, Bool.true_and, Bool.false_and, Bool.true_or, Bool.false_or] | dsimp only)
 (try simp only [Act.put, List.setIfInBounds_toArray, List.set_cons_zero, List.set_cons_succ]); have H := HC3.out; clear HC3
 by_cases c4 : t268 ≥ 97
 ·rw [if_pos c4] at H; have c4b0 : decide (97 ≤ t268) = true := decide_eq_true c4; clear c4; (first | rw [c4b0] | (simp only [i64_w, i32_w]; rw [c4b0]) | skip)
  by_cases c5 : t268 ≤ 122
  ·rw [if_pos c5] at H; have c5b0 : decide (t268 ≤ 122) = true := decide_eq_true c5; clear c5; obtain rfl := Option.some.inj H; go_wp2
   go_ret; exact ⟨zz3, zz8⟩
  ·rw [if_neg c5] at H; have c5b0 : decide (t268 ≤ 122) = false := decide_eq_false c5; clear c5; replace H := Option.bind_eq_some_iff.mp H; obtain ⟨t269, A60, H⟩ := H; (try dsimp only at H); have A6 := Aside0.mk A60; clear A60; have HC7 := Aside0.mk H; clear H
   repeat' (first | (go_big_may; (first | (go_at_call 57; (with_reducible refine (spec_l1digit.calls a0 t269 _ A6.out).mono ?_); rintro e w' ⟨rfl, ⟨nd, rfl⟩⟩))) | go_values | go_skip | go_big_skip | go_big_want | ((first | (with_reducible refine gate_nog rfl ?_) | (fail_if_success with_reducible refine gate_any ?_)); go_step) | go_upon | simp only [Bool.not_true, Bool.not_false, Bool.true_and, Bool.false_and, Bool.true_or, Bool.false_or] | dsimp only)
   (try simp only [Act.put, List.setIfInBounds_toArray, List.set_cons_zero, List.set_cons_succ]); have H := HC7.out; clear HC7
   by_cases c8 : t269 = true
   ·subst c8; rw [if_pos rfl] at H; obtain rfl := Option.some.inj H; go_wp2
    go_ret; exact ⟨zz3, zz8⟩
   ·replace c8 := Bool.eq_false_iff.mpr c8; subst c8; rw [if_neg Bool.false_ne_true] at H
    by_cases c9 : a0 = 96
    ·rw [if_pos c9] at H; have c9b0 : (a0 == 96) = true := beq_iff_eq.mpr c9; have c9b1 : (a0 != 96) = false := bne_eq_false_iff_eq.mpr c9; clear c9; (first | rw [c9b0] | (simp only [i64_w, i32_w]; rw [c9b0]) | rw [c9b1] | skip); obtain rfl := Option.some.inj H; go_wp2
     go_ret; exact ⟨zz3, zz8⟩
    ·rw [if_neg c9] at H; have c9b0 : (a0 == 96) = false := beq_eq_false_iff_ne.mpr c9; have c9b1 : (a0 != 96) = true := bne_iff_ne.mpr c9; (first | rw [c9b0] | (simp only [i64_w, i32_w]; rw [c9b0]) | rw [c9b1] | skip); replace H := Option.bind_eq_some_iff.mp H; obtain ⟨t270, A100, H⟩ := H; (try dsimp only at H); have A10 := Aside0.mk A100; clear A100; obtain rfl := Option.some.inj H; go_wp2_with (first | (go_at_call 58; (with_reducible refine (spec_l1has.calls k (⟨#[33, 35, 36, 37, 38, 39, 42, 43, 45, 46, 94, 95, 124, 126]⟩ : ByteArray) a0 t270 _ A10.out).mono ?_); rintro e w' ⟨rfl, ⟨nd, rfl⟩⟩))
     go_ret; exact ⟨zz3, zz8⟩
 ·rw [if_neg c4] at H; have c4b0 : decide (97 ≤ t268) = false := decide_eq_false c4; clear c4; (first | rw [c4b0] | (simp only [i64_w, i32_w]; rw [c4b0]) | skip); replace H := Option.bind_eq_some_iff.mp H; obtain ⟨t271, A110, H⟩ := H; (try dsimp only at H); have A11 := Aside0.mk A110; clear A110; have HC12 := Aside0.mk H; clear H
  repeat' (first | (go_big_may; (first | (go_at_call 57; (with_reducible refine (spec_l1digit.calls a0 t271 _ A11.out).mono ?_); rintro e w' ⟨rfl, ⟨nd, rfl⟩⟩))) | go_values | go_skip | go_big_skip | go_big_want | ((first | (with_reducible refine gate_nog rfl ?_) | (fail_if_success with_reducible refine gate_any ?_)); go_step) | go_upon | simp only [Bool.not_true, Bool.not_false, Bool.true_and, Bool.false_and, Bool.true_or, Bool.false_or] | dsimp only)
  (try simp only [Act.put, List.setIfInBounds_toArray, List.set_cons_zero, List.set_cons_succ]); have H := HC12.out; clear HC12
  by_cases c13 : t271 = true
  ·subst c13; rw [if_pos rfl] at H; obtain rfl := Option.some.inj H; go_wp2
   go_ret; exact ⟨zz3, zz8⟩
  ·replace c13 := Bool.eq_false_iff.mpr c13; subst c13; rw [if_neg Bool.false_ne_true] at H
   by_cases c14 : a0 = 96
   ·rw [if_pos c14] at H; have c14b0 : (a0 == 96) = true := beq_iff_eq.mpr c14; have c14b1 : (a0 != 96) = false := bne_eq_false_iff_eq.mpr c14; clear c14; (first | rw [c14b0] | (simp only [i64_w, i32_w]; rw [c14b0]) | rw [c14b1] | skip); obtain rfl := Option.some.inj H; go_wp2
    go_ret; exact ⟨zz3, zz8⟩
   ·rw [if_neg c14] at H; have c14b0 : (a0 == 96) = false := beq_eq_false_iff_ne.mpr c14; have c14b1 : (a0 != 96) = true := bne_iff_ne.mpr c14; (first | rw [c14b0] | (simp only [i64_w, i32_w]; rw [c14b0]) | rw [c14b1] | skip); replace H := Option.bind_eq_some_iff.mp H; obtain ⟨t272, A150, H⟩ := H; (try dsimp only at H); have A15 := Aside0.mk A150; clear A150; obtain rfl := Option.some.inj H; go_wp2_with (first | (go_at_call 58; (with_reducible refine (spec_l1has.calls k (⟨#[33, 35, 36, 37, 38, 39, 42, 43, 45, 46, 94, 95, 124, 126]⟩ : ByteArray) a0 t272 _ A15.out).mono ?_); rintro e w' ⟨rfl, ⟨nd, rfl⟩⟩))
    go_ret; exact ⟨zz3, zz8⟩

/-! ### spec_Token: function 19 -/
mutual
def spec_Token.j0 : Nat → ByteArray → Bool → Option (Bool)
 | 0, _, _ => none
 | k + 1, x0, x11 => if x11 = true then (some false) else (spec_Token.l0 k x0 0)
def spec_Token.l0 : Nat → ByteArray → Int → Option (Bool)
 | 0, _, _ => none
 | k + 1, x0, x3 => if x3 < (x0.size : Int) then (if 0 ≤ x3 then ((spec_l1tchar.f k (bt x0 x3)).bind fun t273 => (if t273 = true then (spec_Token.l0 k x0 (wrap64 (x3 + 1))) else (some false))) else (none)) else (some true)
end
def spec_Token.f (k : Nat) (a0 : ByteArray) : Option (Bool) := if (a0.size : Int) = 0 then (spec_Token.j0 k a0 true) else (spec_Token.j0 k a0 (decide ((a0.size : Int) > 4000)))
theorem spec_Token.mono_l : ∀ k, (∀ y0 y1, LeO (spec_Token.j0 k y0 y1) (spec_Token.j0 (k + 1) y0 y1)) ∧ (∀ y0 y1, LeO (spec_Token.l0 k y0 y1) (spec_Token.l0 (k + 1) y0 y1))
 | 0 => ⟨fun _ _ r h => by simp [spec_Token.j0] at h, fun _ _ r h => by simp [spec_Token.l0] at h⟩
 | k + 1 => by
  obtain ⟨ih0, ih1⟩ := spec_Token.mono_l k; refine ⟨?_, ?_⟩
  ·intro y0 y1; unfold spec_Token.j0
   repeat' first | (with_reducible first | exact ih0 _ _ | exact ih1 _ _ | exact spec_l1tchar.mono _ _ | exact LeO.refl _ | exact LeO.none _ | refine LeO.ite ?_ ?_ | refine LeO.bind ?_ (fun _ => ?_)) | exact ih0 _ _ | exact ih1 _ _ | exact spec_l1tchar.mono _ _ | exact LeO.none _ | refine LeO.ite ?_ ?_ | refine LeO.bind ?_ (fun _ => ?_)
  ·intro y0 y1; unfold spec_Token.l0
   repeat' first | (with_reducible first | exact ih0 _ _ | exact ih1 _ _ | exact spec_l1tchar.mono _ _ | exact LeO.refl _ | exact LeO.none _ | refine LeO.ite ?_ ?_ | refine LeO.bind ?_ (fun _ => ?_)) | exact ih0 _ _ | exact ih1 _ _ | exact spec_l1tchar.mono _ _ | exact LeO.none _ | refine LeO.ite ?_ ?_ | refine LeO.bind ?_ (fun _ => ?_)
theorem spec_Token.mono : ∀ a0 k, LeO (spec_Token.f k a0) (spec_Token.f (k + 1) a0) := by
 intro a0 k; obtain ⟨ih0, ih1⟩ := spec_Token.mono_l k; unfold spec_Token.f
 repeat' first | (with_reducible first | exact ih0 _ _ | exact ih1 _ _ | exact spec_l1tchar.mono _ _ | exact LeO.refl _ | exact LeO.none _ | refine LeO.ite ?_ ?_ | refine LeO.bind ?_ (fun _ => ?_)) | exact ih0 _ _ | exact ih1 _ _ | exact spec_l1tchar.mono _ _ | exact LeO.none _ | refine LeO.ite ?_ ?_ | refine LeO.bind ?_ (fun _ => ?_)
set_option maxHeartbeats 40000000 in
set_option maxRecDepth 100000 in
theorem spec_Token.calls (k : Nat) (a0 : ByteArray) (r : Bool) (w : World) (h : spec_Token.f k a0 = some r) :
  Calls Tryz.prog 19 #[.string a0] w fun e w' => e = .returned (.bool r) ∧ Drawn0 w w' := by
 have H : (if (a0.size : Int) = 0 then (spec_Token.j0 k a0 true) else (spec_Token.j0 k a0 (decide ((a0.size : Int) > 4000)))) = some r := h; clear h; have HC2 := Aside0.mk H; clear H; go_enter Tryz.func19, Tryz.ntmps19
 go_upto_region 1 with (fail)
 go_cut [11] (fun v11 wc => ∃ (kq : Nat) (x11_1 : Bool), v11 = .bool x11_1 ∧ Aside0 (spec_Token.j0 kq a0 x11_1 = some r) ∧ Aside0 (kq ≤ k) ∧ Drawn0 w wc)
 case first =>
  have H := HC2.out; clear HC2
  by_cases c3 : (a0.size : Int) = 0
  ·rw [if_pos c3] at H; have c3b0 : ((a0.size : Int) == 0) = true := beq_iff_eq.mpr c3; have c3b1 : ((a0.size : Int) != 0) = false := bne_eq_false_iff_eq.mpr c3; clear c3; (first | rw [c3b0] | (simp only [i64_w, i32_w]; rw [c3b0]) | rw [c3b1] | skip); have H' := Aside0.mk H; clear H; go_wp2
   go_meet
   case rel => exact ⟨_, (true), zz3, H', ⟨by first | omega | exact Nat.le_refl _⟩, zz8⟩
  ·rw [if_neg c3] at H; have c3b0 : ((a0.size : Int) == 0) = false := beq_eq_false_iff_ne.mpr c3; have c3b1 : ((a0.size : Int) != 0) = true := bne_iff_ne.mpr c3; (first | rw [c3b0] | (simp only [i64_w, i32_w]; rw [c3b0]) | rw [c3b1] | skip); have H' := Aside0.mk H; clear H; go_wp2
   go_meet
   case rel => exact ⟨_, (decide ((a0.size : Int) > 4000)), zz3, H', ⟨by first | omega | exact Nat.le_refl _⟩, zz8⟩
 case rest =>
  clear HC2; (try clear c1); (try clear p2); (try clear c3); (try clear c3b0); (try clear c3b1); obtain ⟨kq, x11_1, rfl, HA, HJ1, ⟨mc1, rfl⟩⟩ := hcut
  cases kq with
  | zero => exact absurd HA.out (by simp [spec_Token.j0])
  | succ kj1 =>
   have H := HA.out; clear HA; simp only [spec_Token.j0] at H
   by_cases c4 : x11_1 = true
   ·subst c4; rw [if_pos rfl] at H; obtain rfl := Option.some.inj H; go_wp2
    go_ret; exact ⟨zz3, zz8⟩
   ·replace c4 := Bool.eq_false_iff.mpr c4; subst c4; rw [if_neg Bool.false_ne_true] at H; have H' := Aside0.mk H; clear H; go_wp2
    go_loopg [3] kj1 (fun kq v3 w' => ∃ (x3_2 : Int), v3 = .int .i64 x3_2 ∧ Aside0 (spec_Token.l0 kq a0 x3_2 = some r) ∧ Aside0 (kq ≤ kj1) ∧ Drawn0 w w')
    case atStart => exact ⟨(0), zz3, H', ⟨Nat.le_refl _⟩, zz8⟩
    case round =>
     clear H'; (try clear c1); (try clear p2); (try clear c3); (try clear c3b0); (try clear c3b1); (try clear c4); (try clear p2); obtain ⟨x3_2, rfl, HA, HK2, ⟨m2, rfl⟩⟩ := hrel
     cases gk with
     | zero => exact absurd HA.out (by simp [spec_Token.l0])
     | succ k2 =>
      have H := HA.out; clear HA; simp only [spec_Token.l0] at H
      by_cases c5 : x3_2 < (a0.size : Int)
      ·rw [if_pos c5] at H; have c5b0 : decide (x3_2 < (a0.size : Int)) = true := decide_eq_true c5; clear c5
       by_cases c6 : 0 ≤ x3_2
       ·rw [if_pos c6] at H; have c6b0 : decide (0 ≤ x3_2) = true := decide_eq_true c6; clear c6; replace H := Option.bind_eq_some_iff.mp H; obtain ⟨t273, A80, H⟩ := H; (try dsimp only at H); have A8 := Aside0.mk A80; clear A80; have HC9 := Aside0.mk H; clear H; have p7 : 0 ≤ (x3_2 : Int) := of_decide_eq_true zz6; have q7 : x3_2 < (a0.size : Int) := of_decide_eq_true zz6; have hx7 := bt_at a0 x3_2; replace p7 := eq_true p7; replace q7 := eq_true q7; go_upto_if 22 with (first | ((with_reducible refine gate_callee (f := 38) rfl ?_); refine goesR_ 21 Tryz.func38 #[.int .u8 (bt a0 x3_2)] (spec_l1tchar.calls k2 (bt a0 x3_2) t273 _ A8.out) ?_; rintro w' ⟨nd, rfl⟩))
        (try simp only [Act.put, List.setIfInBounds_toArray, List.set_cons_zero, List.set_cons_succ]); have H := HC9.out; clear HC9
        by_cases c10 : t273 = true
        ·subst c10; rw [if_pos rfl] at H; have H' := Aside0.mk H; clear H; go_wp2
         go_roundg k2
         (case measure => have := HJ1.out; have := HK2.out; omega); case rel => exact ⟨(wrap64 (x3_2 + 1)), zz3, H', ⟨by have := HJ1.out; have := HK2.out; omega⟩, zz8⟩
        ·replace c10 := Bool.eq_false_iff.mpr c10; subst c10; rw [if_neg Bool.false_ne_true] at H; obtain rfl := Option.some.inj H; go_wp2
         go_ret; exact ⟨zz3, zz8⟩
       ·rw [if_neg c6] at H; exact absurd H (by simp)
      ·rw [if_neg c5] at H; have c5b0 : decide (x3_2 < (a0.size : Int)) = false := decide_eq_false c5; clear c5; obtain rfl := Option.some.inj H; go_wp2
       go_ret; exact ⟨zz3, zz8⟩

/-! ### spec_l1plain: function 81 -/
def spec_l1plain.f (a0 : Int) : Option (Bool) := if a0 = 9 then (some true) else (if a0 ≥ 32 then (some (a0 != 127)) else (some false))
set_option maxHeartbeats 40000000 in
set_option maxRecDepth 100000 in
theorem spec_l1plain.calls (a0 : Int) (r : Bool) (w : World) (h : spec_l1plain.f a0 = some r) :
  Calls Tryz.prog 81 #[.int .u8 a0] w fun e w' => e = .returned (.bool r) ∧ Drawn0 w w' := by
 have H : (if a0 = 9 then (some true) else (if a0 ≥ 32 then (some (a0 != 127)) else (some false))) = some r := h; clear h
 by_cases c2 : a0 = 9
 ·rw [if_pos c2] at H; have c2b0 : (a0 == 9) = true := beq_iff_eq.mpr c2; have c2b1 : (a0 != 9) = false := bne_eq_false_iff_eq.mpr c2; clear c2; obtain rfl := Option.some.inj H; go_enter Tryz.func81, Tryz.ntmps81
  go_wp2
  go_ret; exact ⟨zz3, zz8⟩
 ·rw [if_neg c2] at H; have c2b0 : (a0 == 9) = false := beq_eq_false_iff_ne.mpr c2; have c2b1 : (a0 != 9) = true := bne_iff_ne.mpr c2
  by_cases c3 : a0 ≥ 32
  ·rw [if_pos c3] at H; have c3b0 : decide (32 ≤ a0) = true := decide_eq_true c3; clear c3; obtain rfl := Option.some.inj H; go_enter Tryz.func81, Tryz.ntmps81
   go_wp2
   go_ret; exact ⟨zz3, zz8⟩
  ·rw [if_neg c3] at H; have c3b0 : decide (32 ≤ a0) = false := decide_eq_false c3; clear c3; obtain rfl := Option.some.inj H; go_enter Tryz.func81, Tryz.ntmps81
   go_wp2
   go_ret; exact ⟨zz3, zz8⟩

end Go.Proofs.YtkkolioolgpljaaGreat.GFnHops
