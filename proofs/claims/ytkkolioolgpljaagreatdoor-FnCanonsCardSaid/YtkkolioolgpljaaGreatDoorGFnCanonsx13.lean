-- Laid by gen.py of this session (over the kit's printing program): what the law FnCanons reaches, as Lean functions, and that Go comes to just that.
import Derived.Test.YtkkolioolgpljaaGreatDoorGFnCanonsx0
import Derived.Test.YtkkolioolgpljaaGreatDoorGFnCanonsx11
import Derived.Test.YtkkolioolgpljaaGreatDoorGFnCanonsx12
import Derived.Test.YtkkolioolgpljaaGreatDoorZFnCanons
namespace Go.Proofs.YtkkolioolgpljaaGreatDoor.GFnCanons
open Go.RowKit Go.Proofs.YtkkolioolgpljaaGreatDoorW.PrintWords Go.Proofs.YtkkolioolgpljaaGreatDoorW.PrintLast Go.Proofs.YtkkolioolgpljaaGreatDoorW.PrintMore Go.Proofs.YtkkolioolgpljaaGreatDoorW.Zs
attribute [local go_sem] max2_int min2_int max_two min_two max_three min_three max_four min_four   -- for this text's walks alone
set_option linter.unusedVariables false
set_option linter.unusedSimpArgs false

/-! ### spec_l1bend: function 45 -/
def spec_l1bend.f (s0_0 : List Int) (s0_1 : Int) (s0_2 : Int) (a1 : ByteArray) : Option (ByteArray × Int × Int) := if a1.size ≤ 1000000 then ((spec_l1Below.f s0_0 s0_1 s0_2 ((a1.size : Int) + 1)).bind fun bt130 => ((spec_l1Below.f s0_0 bt130.2.1 bt130.2.2 4).bind fun bt133 => (if bt133.1 = 0 then (if 0 ≤ bt130.1 then (if bt130.1 ≤ (a1.size : Int) then ((spec_l1Byte.f s0_0 bt133.2.1 bt133.2.2).bind fun bt136 => ((some (([(bt136.1) % 256] : List Int) : List Int)).bind fun y139 => (if (a1.extract 0 (bt130.1 : Int).toNat).size + (strOfNums y139).size ≤ 9223372036854775807 then (if ((a1.extract 0 (bt130.1 : Int).toNat) ++ (strOfNums y139)).size + (a1.extract (bt130.1 : Int).toNat a1.size).size ≤ 9223372036854775807 then (some (((a1.extract 0 (bt130.1 : Int).toNat) ++ (strOfNums y139)) ++ (a1.extract (bt130.1 : Int).toNat a1.size), bt136.2.1, bt136.2.2)) else (none)) else (none)))) else (none)) else (none)) else (if bt133.1 = 1 then (if 0 ≤ bt130.1 then (if bt130.1 ≤ (a1.size : Int) then (some (a1.extract 0 (bt130.1 : Int).toNat, bt133.2.1, bt133.2.2)) else (none)) else (none)) else (if bt133.1 = 2 then (if bt130.1 < (a1.size : Int) then (if 0 ≤ bt130.1 then (if bt130.1 ≤ (a1.size : Int) then (if 0 ≤ (wrap64 (bt130.1 + 1)) then (if (wrap64 (bt130.1 + 1)) ≤ (a1.size : Int) then (if (a1.extract 0 (bt130.1 : Int).toNat).size + (a1.extract ((wrap64 (bt130.1 + 1)) : Int).toNat a1.size).size ≤ 9223372036854775807 then (some ((a1.extract 0 (bt130.1 : Int).toNat) ++ (a1.extract ((wrap64 (bt130.1 + 1)) : Int).toNat a1.size), bt133.2.1, bt133.2.2)) else (none)) else (none)) else (none)) else (none)) else (none)) else (if a1.size + 1 ≤ 9223372036854775807 then (some (a1 ++ (⟨#[48]⟩ : ByteArray), bt133.2.1, bt133.2.2)) else (none))) else (if bt130.1 < (a1.size : Int) then ((some (bytesOf a1 : List Int)).bind fun y142 => (if 0 ≤ bt130.1 then (if bt130.1 < (y142.length : Int) then ((spec_l1Below.f s0_0 bt133.2.1 bt133.2.2 8).bind fun bt146 => (if 0 ≤ bt146.1 then (some (strOfNums (y142.set (bt130.1 : Int).toNat (Go.bits .xor .u8 (rd y142 bt130.1) (shl .u8 1 bt146.1))), bt146.2.1, bt146.2.2)) else (none))) else (none)) else (none))) else (if a1.size + 1 ≤ 9223372036854775807 then (some (a1 ++ (⟨#[48]⟩ : ByteArray), bt133.2.1, bt133.2.2)) else (none)))))))) else none
def spec_l1bend.T4 : Bool × List (List Nat × List Nat) := (true, [([], []), ([], []), ([0, 1], [0, 1]), ([], []), ([3], [3]), ([4], [4]), ([5], [5]), ([6], [6]), ([2, 7], [2, 7]), ([], []), ([], []), ([9, 10], [9, 10]), ([8, 11], [8, 11]), ([12, 4, 0, 1, 2, 3, 4, 5, 6, 7, 8, 9, 10, 11, 12], [12])])
def spec_l1bend.B4 : List Nat := [0, 0, 3, 0, 8, 24, 56, 120, 255, 0, 0, 1536, 4095, 8191]
theorem spec_l1bend.tab4 : rtab .any (opsOf Tryz.f45 4) = spec_l1bend.T4 := by kernel_rfl
theorem spec_l1bend.bits4 : waitsOk spec_l1bend.T4.2 spec_l1bend.B4 = true := by kernel_rfl
def spec_l1bend.T9 : Bool × List (List Nat × List Nat) := (true, [([], []), ([], []), ([0, 1], [0, 1]), ([], []), ([], []), ([4], [4]), ([3, 5], [3, 5]), ([2, 6], [2, 6]), ([7, 0, 1, 2, 3, 4, 5, 6, 7], [7])])
def spec_l1bend.B9 : List Nat := [0, 0, 3, 0, 0, 16, 56, 127, 255]
theorem spec_l1bend.tab9 : rtab .any (opsOf Tryz.f45 9) = spec_l1bend.T9 := by kernel_rfl
theorem spec_l1bend.bits9 : waitsOk spec_l1bend.T9.2 spec_l1bend.B9 = true := by kernel_rfl
def spec_l1bend.T12 : Bool × List (List Nat × List Nat) := (true, [([], []), ([], []), ([], []), ([], []), ([2, 3], [2, 3]), ([4], [4]), ([], []), ([6], [6]), ([7], [7]), ([5, 8], [5, 8]), ([0, 1, 0, 1, 2, 3, 4, 5, 6, 7, 8, 9], [0, 1]), ([10, 9, 7, 0, 1, 2, 3, 4, 5, 6, 7, 8, 9], [9, 10])])
def spec_l1bend.B12 : List Nat := [0, 0, 0, 0, 12, 28, 0, 64, 192, 508, 1023, 2047]
theorem spec_l1bend.tab12 : rtab .any (opsOf Tryz.f45 12) = spec_l1bend.T12 := by kernel_rfl
theorem spec_l1bend.bits12 : waitsOk spec_l1bend.T12.2 spec_l1bend.B12 = true := by kernel_rfl
set_option maxHeartbeats 8000000 in
set_option maxRecDepth 100000 in
theorem spec_l1bend.calls (g : Nat) (s0_0 : List Int) (s0_1 : Int) (s0_2 : Int) (a1 : ByteArray) (r1 : ByteArray) (r2 : Int) (r3 : Int) (w0 w : World) (hI : IsS62 w0 w g s0_0 s0_1 s0_2) (hB : Below w0.heap.size w0 w) (h : spec_l1bend.f s0_0 s0_1 s0_2 a1 = some (r1, r2, r3)) :
  Calls Tryz.prog 45 #[.pointer (some ⟨g, 0, none⟩), .string a1] w fun e w' => e = .returned (.string r1) ∧ IsS62 w0 w' g s0_0 r2 r3 ∧ Below w0.heap.size w0 w' ∧ KeepBut w w' g none := by
 unfold spec_l1bend.f at h
 by_cases hsz_ : a1.size ≤ 1000000
 rotate_left
 ·rw [if_neg hsz_] at h; cases h
 rw [if_pos hsz_] at h
 have HSZ := Aside0.mk hsz_
 have hw_ : wrap64 ((a1.size : Int) + 1) = (a1.size : Int) + 1 := by unfold wrap64; omega
 have hwi_ : IntKind.i64.wrap ((a1.size : Int) + 1) = (a1.size : Int) + 1 := (i64_w _).trans hw_
 clear hsz_
 have HI0 := Aside0.mk hI
 have HK := Aside0.mk (KeepBut.refl w g none)
 have HL := Aside0.mk hB.size
 clear hI
 have HW0 := Aside0.mk hB.size
 have HB := Aside0.mk hB
 clear hB
 have H : ((spec_l1Below.f s0_0 s0_1 s0_2 ((a1.size : Int) + 1)).bind fun bt130 => ((spec_l1Below.f s0_0 bt130.2.1 bt130.2.2 4).bind fun bt133 => (if bt133.1 = 0 then (if 0 ≤ bt130.1 then (if bt130.1 ≤ (a1.size : Int) then ((spec_l1Byte.f s0_0 bt133.2.1 bt133.2.2).bind fun bt136 => ((some (([(bt136.1) % 256] : List Int) : List Int)).bind fun y139 => (if (a1.extract 0 (bt130.1 : Int).toNat).size + (strOfNums y139).size ≤ 9223372036854775807 then (if ((a1.extract 0 (bt130.1 : Int).toNat) ++ (strOfNums y139)).size + (a1.extract (bt130.1 : Int).toNat a1.size).size ≤ 9223372036854775807 then (some (((a1.extract 0 (bt130.1 : Int).toNat) ++ (strOfNums y139)) ++ (a1.extract (bt130.1 : Int).toNat a1.size), bt136.2.1, bt136.2.2)) else (none)) else (none)))) else (none)) else (none)) else (if bt133.1 = 1 then (if 0 ≤ bt130.1 then (if bt130.1 ≤ (a1.size : Int) then (some (a1.extract 0 (bt130.1 : Int).toNat, bt133.2.1, bt133.2.2)) else (none)) else (none)) else (if bt133.1 = 2 then (if bt130.1 < (a1.size : Int) then (if 0 ≤ bt130.1 then (if bt130.1 ≤ (a1.size : Int) then (if 0 ≤ (wrap64 (bt130.1 + 1)) then (if (wrap64 (bt130.1 + 1)) ≤ (a1.size : Int) then (if (a1.extract 0 (bt130.1 : Int).toNat).size + (a1.extract ((wrap64 (bt130.1 + 1)) : Int).toNat a1.size).size ≤ 9223372036854775807 then (some ((a1.extract 0 (bt130.1 : Int).toNat) ++ (a1.extract ((wrap64 (bt130.1 + 1)) : Int).toNat a1.size), bt133.2.1, bt133.2.2)) else (none)) else (none)) else (none)) else (none)) else (none)) else (if a1.size + 1 ≤ 9223372036854775807 then (some (a1 ++ (⟨#[48]⟩ : ByteArray), bt133.2.1, bt133.2.2)) else (none))) else (if bt130.1 < (a1.size : Int) then ((some (bytesOf a1 : List Int)).bind fun y142 => (if 0 ≤ bt130.1 then (if bt130.1 < (y142.length : Int) then ((spec_l1Below.f s0_0 bt133.2.1 bt133.2.2 8).bind fun bt146 => (if 0 ≤ bt146.1 then (some (strOfNums (y142.set (bt130.1 : Int).toNat (Go.bits .xor .u8 (rd y142 bt130.1) (shl .u8 1 bt146.1))), bt146.2.1, bt146.2.2)) else (none))) else (none)) else (none))) else (if a1.size + 1 ≤ 9223372036854775807 then (some (a1 ++ (⟨#[48]⟩ : ByteArray), bt133.2.1, bt133.2.2)) else (none)))))))) = some (r1, r2, r3) := h
 clear h
 replace H := Option.bind_eq_some_iff.mp H
 obtain ⟨⟨t130, t131, t132⟩, A30, H⟩ := H
 try dsimp only at H
 have A3 := Aside0.mk A30
 clear A30
 replace H := Option.bind_eq_some_iff.mp H
 obtain ⟨⟨t133, t134, t135⟩, A40, H⟩ := H
 try dsimp only at H
 have A4 := Aside0.mk A40
 clear A40
 by_cases c5 : t133 = 0
 ·rw [if_pos c5] at H
  have c5b0 : (t133 == 0) = true := beq_iff_eq.mpr c5
  have c5b1 : (t133 != 0) = false := bne_eq_false_iff_eq.mpr c5
  clear c5
  by_cases c6 : 0 ≤ t130
  ·rw [if_pos c6] at H
   have c6b0 := eq_true c6
   have c6b1 : decide (0 ≤ t130) = true := decide_eq_true c6
   clear c6
   by_cases c7 : t130 ≤ (a1.size : Int)
   ·rw [if_pos c7] at H
    have c7b0 := eq_true c7
    have c7b1 : decide (t130 ≤ (a1.size : Int)) = true := decide_eq_true c7
    clear c7
    replace H := Option.bind_eq_some_iff.mp H
    obtain ⟨⟨t136, t137, t138⟩, A80, H⟩ := H
    try dsimp only at H
    have A8 := Aside0.mk A80
    clear A80
    obtain ⟨y139, hy139⟩ : ∃ y_ : List Int, y_ = (([(t136) % 256] : List Int)) := ⟨_, rfl⟩
    replace H : (if (a1.extract 0 (t130 : Int).toNat).size + (strOfNums y139).size ≤ 9223372036854775807 then (if ((a1.extract 0 (t130 : Int).toNat) ++ (strOfNums y139)).size + (a1.extract (t130 : Int).toNat a1.size).size ≤ 9223372036854775807 then (some (((a1.extract 0 (t130 : Int).toNat) ++ (strOfNums y139)) ++ (a1.extract (t130 : Int).toNat a1.size), t137, t138)) else (none)) else (none)) = some (r1, r2, r3) := by first | (rw [hy139]; with_reducible exact H) | (have H2_ := (Option.bind_some _ _).symm.trans H; rw [hy139]; with_reducible exact H2_) | (have H2_ := (Option.bind_some _ _).symm.trans H; with_reducible exact H2_) | with_reducible exact H | (rw [hy139]; exact H) | exact H
    have Ny139 := Aside0.mk hy139
    clear hy139
    by_cases c9 : (a1.extract 0 (t130 : Int).toNat).size + (strOfNums y139).size ≤ 9223372036854775807
    ·rw [if_pos c9] at H
     have c9b0 := eq_true c9
     have c9b1 : decide ((a1.extract 0 (t130 : Int).toNat).size + (strOfNums y139).size ≤ 9223372036854775807) = true := decide_eq_true c9
     try have c9b2 : (9223372036854775807 < (a1.extract 0 (t130 : Int).toNat).size + (strOfNums y139).size) = False := eq_false (Nat.not_lt.2 c9)
     have c9j : (9223372036854775807 < t130.toNat + (strOfNums y139).size) = False := eq_false (by have h1_ := HSZ.out; have h2_ : (strOfNums y139).size = 1 := (by rw [Ny139.out]; rfl); have h3_ := of_decide_eq_true c7b1; omega)
     have c10b0 := eq_true (of_decide_eq_true z3 : 0 ≤ t130)
     have c11b0 := eq_true (of_decide_eq_true z3 : t130 ≤ (a1.size : Int))
     by_cases c12 : ((a1.extract 0 (t130 : Int).toNat) ++ (strOfNums y139)).size + (a1.extract (t130 : Int).toNat a1.size).size ≤ 9223372036854775807
     ·rw [if_pos c12] at H
      have c12b0 := eq_true c12
      have c12b1 : decide (((a1.extract 0 (t130 : Int).toNat) ++ (strOfNums y139)).size + (a1.extract (t130 : Int).toNat a1.size).size ≤ 9223372036854775807) = true := decide_eq_true c12
      try have c12b2 : (9223372036854775807 < ((a1.extract 0 (t130 : Int).toNat) ++ (strOfNums y139)).size + (a1.extract (t130 : Int).toNat a1.size).size) = False := eq_false (Nat.not_lt.2 c12)
      have c12j : (9223372036854775807 < t130.toNat + (strOfNums y139).size + (a1.size - t130.toNat)) = False := eq_false (by have h1_ := HSZ.out; have h2_ : (strOfNums y139).size = 1 := (by rw [Ny139.out]; rfl); have h3_ := of_decide_eq_true c7b1; omega)
      try have c12z := c12b2; simp only [ByteArray.size_append] at c12z; have c12b3 := c12z
      try have c12y := c12b2; simp only [ByteArray.size_append, ByteArray.size_extract] at c12y; have c12b4 := c12y
      try have c12v := c12b2; simp only [ByteArray.size_append, ByteArray.size_extract] at c12v; rw [Nat.min_eq_left (by omega)] at c12v; (try simp only [Nat.sub_zero] at c12v); have c12b5 := c12v
      simp only [Option.some.injEq, Prod.mk.injEq] at H
      obtain ⟨rfl, rfl, rfl⟩ := H
      go_enter Tryz.func45, Tryz.ntmps45
      try go_wp2_with (first | ((with_reducible refine gate_callee (f := 44) rfl ?_); refine goesQ_ 11 Tryz.func44 #[.pointer (some ⟨g, 0, none⟩), .int .i64 ((a1.size : Int) + 1)] ?_; (with_reducible refine (spec_l1Below.calls g s0_0 s0_1 s0_2 ((a1.size : Int) + 1) t130 t131 t132 w0 _ ?side1 ?side2 A3.out).mono ?_); (case side1 => repeat (first | (with_reducible first | exact HI0.out | apply IsS62.alloc | apply IsS62.drewN | apply IsS62.drew | apply IsS62.set_1 | apply IsS62.set_2) | exact HI0.out)); (case side2 => repeat (first | (with_reducible first | exact HB.out | apply below_alloc | apply pw_below_drewN | apply below_drew1 | refine below_set ?_ (IsS62.ge HI0.out)) | exact HB.out)); rintro e w13 ⟨rfl, hi, hb, hk⟩; refine ⟨_, rfl, ?_⟩; replace HK := Aside0.mk (KeepBut.trans z1 hk (.inl rfl)); replace HB := Aside0.mk (hb); replace HI0 := Aside0.mk (hi); (try clear hb); (try clear hk); (try clear hi)) | ((with_reducible refine gate_callee (f := 44) rfl ?_); refine goesQ_ 13 Tryz.func44 #[.pointer (some ⟨g, 0, none⟩), .int .i64 4] ?_; (with_reducible refine (spec_l1Below.calls g s0_0 t131 t132 4 t133 t134 t135 w0 _ ?side1 ?side2 A4.out).mono ?_); (case side1 => repeat (first | (with_reducible first | exact HI0.out | apply IsS62.alloc | apply IsS62.drewN | apply IsS62.drew | apply IsS62.set_1 | apply IsS62.set_2) | exact HI0.out)); (case side2 => repeat (first | (with_reducible first | exact HB.out | apply below_alloc | apply pw_below_drewN | apply below_drew1 | refine below_set ?_ (IsS62.ge HI0.out)) | exact HB.out)); rintro e w14 ⟨rfl, hi, hb, hk⟩; refine ⟨_, rfl, ?_⟩; replace HK := Aside0.mk (KeepBut.trans z1 hk (.inl rfl)); replace HB := Aside0.mk (hb); replace HI0 := Aside0.mk (hi); (try clear hb); (try clear hk); (try clear hi)))
      have n0_ := Aside0.mk (IsS62.drew HI0.out)
      have n1_ := Aside0.mk (keep_drew HK.out)
      have n2_ := Aside0.mk (below_drew1 HB.out)
      clear HI0
      clear HK
      clear HB
      have HI0 := n0_
      have HK := n1_
      have HB := n2_
      clear n0_ n1_ n2_
      refine start_ (n := 14) (S := fun w' => True) (ds := []) #[false, false, false, false, false, false, false, false, false, false, false, false, false, false] (by kernel_rfl) rfl rfl trivial (fun hHeld => ?_); refine with_tabW spec_l1bend.tab4 spec_l1bend.bits4 (fun HT_ HW_ => ?_)
      generalize w14.drew = w15 at HI0 HK HB hHeld ⊢
      refine pz 0 16 ?_
      refine pz 1 17 ?_
      refine pz 2 18 ?_
      refine pz 3 19 ?_
      refine pz 9 25 ?_
      refine pz 10 26 ?_
      refine pz 11 27 ?_
      refine oz 4 20 (fun K hK => ?_)
      refine goes_ Tryz.func76 (by kernel_rfl) rfl #[.pointer (some ⟨g, 0, none⟩)] (by rfl) rfl rfl z8 ?_
      with_reducible refine (spec_l1Byte.calls g s0_0 t134 t135 t136 t137 t138 w0 _ ?side1 ?side2 A8.out).mono ?_
      (case side1 => repeat (first | (with_reducible first | exact HI0.out | apply IsS62.alloc | apply IsS62.drewN | apply IsS62.drew | apply IsS62.set_1 | apply IsS62.set_2) | exact HI0.out))
      (case side2 => repeat (first | (with_reducible first | exact HB.out | apply below_alloc | apply pw_below_drewN | apply below_drew1 | refine below_set ?_ (IsS62.ge HI0.out)) | exact HB.out))
      rintro e w16 ⟨rfl, hi, hb, hk⟩
      refine ⟨_, rfl, ?_⟩
      have n0_ := Aside0.mk (KeepBut.trans z1 hk (.inl rfl))
      have n1_ := Aside0.mk (hb)
      have n2_ := Aside0.mk (hi)
      clear HK
      clear HB
      clear HI0
      have HK := n0_
      have HB := n1_
      have HI0 := n2_
      clear n0_ n1_ n2_
      (try clear hb)
      (try clear hb2)
      (try clear hk)
      (try clear hi)
      refine hK.out _ _ trivial (fun hHeld => ?_)
      clear hK K
      refine nz ?_
      refine pz 5 21 ?_
      refine oz 6 22 (fun K hK => ?_)
      refine Kd.R_lit_step (Kd.int .u8) _ 5 ?hg (N := 22) ?hd (xs := ([(t136) % 256] : List Int)) (inner := [.int .u8 ((t136) % 256)]) (ok := fun _ => True) (okp := fun _ => True) ?hr ?hp (fun _ hk => hk) trivial (Below.refl _ _) (Nat.le_refl _) (by simp) ?_; (case hd => rfl); (case hg => rfl); (case hr => first | (go_simp; done) | (go_simp; rfl)); (case hp => exact (Reps.one (show Kd.M (Kd.int .u8) _ _ _ ((t136) % 256) [.int .u8 ((t136) % 256)] from rfl) (Reps.none _ _)))
      intro v140 w17 ho18 hb hg_ hnew_
      clear hg_ hnew_
      (first | rw [← Ny139.out] at ho18 | (simp only [Int.reduceToNat] at ho18; rw [← Ny139.out] at ho18))
      have n0_ := Aside0.mk (Kd.R_lower ho18 (keep_size (w := w) (g := g) (row := none) z1))
      have n1_ := Aside0.mk (IsS62.below z2 hb)
      have n2_ := Aside0.mk (KeepBut.trans z1 (KeepBut.of_below hb g none) (.inl rfl))
      have n3_ := Aside0.mk (below_step z6 hb)
      clear HI0
      clear HK
      clear HB
      have HO141 := n0_
      have HI0 := n1_
      have HK := n2_
      have HB := n3_
      clear n0_ n1_ n2_ n3_
      clear hb ho18
      refine hK.out _ _ trivial (fun hHeld => ?_)
      clear hK K
      refine nz ?_
      refine oz 7 23 (fun K hK => ?_)
      have hcv19 := own_string (P := Tryz.prog) Tryz.underlying22 Tryz.underlying5 Tryz.underlying9 (Kd.own_of_R HO141.out)
      refine value_ (w1 := ?_) (v := ?_) (by rfl) rfl ?_ ?_
      rotate_left 2
      ·go_simp
       constructor
       ·rfl
       ·rfl
      clear hcv19
      refine hK.out _ _ trivial (fun hHeld => ?_)
      clear hK K
      refine nz ?_
      refine pz 8 24 ?_
      refine pz 12 28 ?_
      refine pz 13 4 ?_
      refine done_ (done_of HT_.out (by kernel_rfl)) ?_
      try go_wp2
      go_ret
      exact ⟨z4, z2, z6, z1⟩
     ·rw [if_neg c12] at H
      exact absurd H (by simp)
    ·rw [if_neg c9] at H
     exact absurd H (by simp)
   ·rw [if_neg c7] at H
    exact absurd H (by simp)
  ·rw [if_neg c6] at H
   exact absurd H (by simp)
 ·rw [if_neg c5] at H
  have c5b0 : (t133 == 0) = false := beq_eq_false_iff_ne.mpr c5
  have c5b1 : (t133 != 0) = true := bne_iff_ne.mpr c5
  by_cases c20 : t133 = 1
  ·rw [if_pos c20] at H
   have c20b0 : (t133 == 1) = true := beq_iff_eq.mpr c20
   have c20b1 : (t133 != 1) = false := bne_eq_false_iff_eq.mpr c20
   clear c20
   by_cases c21 : 0 ≤ t130
   ·rw [if_pos c21] at H
    have c21b0 := eq_true c21
    have c21b1 : decide (0 ≤ t130) = true := decide_eq_true c21
    clear c21
    by_cases c22 : t130 ≤ (a1.size : Int)
    ·rw [if_pos c22] at H
     have c22b0 := eq_true c22
     have c22b1 : decide (t130 ≤ (a1.size : Int)) = true := decide_eq_true c22
     clear c22
     simp only [Option.some.injEq, Prod.mk.injEq] at H
     obtain ⟨rfl, rfl, rfl⟩ := H
     go_enter Tryz.func45, Tryz.ntmps45
     go_wp2_with (first | ((with_reducible refine gate_callee (f := 44) rfl ?_); refine goesQ_ 11 Tryz.func44 #[.pointer (some ⟨g, 0, none⟩), .int .i64 ((a1.size : Int) + 1)] ?_; (with_reducible refine (spec_l1Below.calls g s0_0 s0_1 s0_2 ((a1.size : Int) + 1) t130 t131 t132 w0 _ ?side1 ?side2 A3.out).mono ?_); (case side1 => repeat (first | (with_reducible first | exact HI0.out | apply IsS62.alloc | apply IsS62.drewN | apply IsS62.drew | apply IsS62.set_1 | apply IsS62.set_2) | exact HI0.out)); (case side2 => repeat (first | (with_reducible first | exact HB.out | apply below_alloc | apply pw_below_drewN | apply below_drew1 | refine below_set ?_ (IsS62.ge HI0.out)) | exact HB.out)); rintro e w23 ⟨rfl, hi, hb, hk⟩; refine ⟨_, rfl, ?_⟩; replace HK := Aside0.mk (KeepBut.trans z1 hk (.inl rfl)); replace HB := Aside0.mk (hb); replace HI0 := Aside0.mk (hi); (try clear hb); (try clear hk); (try clear hi)) | ((with_reducible refine gate_callee (f := 44) rfl ?_); refine goesQ_ 13 Tryz.func44 #[.pointer (some ⟨g, 0, none⟩), .int .i64 4] ?_; (with_reducible refine (spec_l1Below.calls g s0_0 t131 t132 4 t133 t134 t135 w0 _ ?side1 ?side2 A4.out).mono ?_); (case side1 => repeat (first | (with_reducible first | exact HI0.out | apply IsS62.alloc | apply IsS62.drewN | apply IsS62.drew | apply IsS62.set_1 | apply IsS62.set_2) | exact HI0.out)); (case side2 => repeat (first | (with_reducible first | exact HB.out | apply below_alloc | apply pw_below_drewN | apply below_drew1 | refine below_set ?_ (IsS62.ge HI0.out)) | exact HB.out)); rintro e w24 ⟨rfl, hi, hb, hk⟩; refine ⟨_, rfl, ?_⟩; replace HK := Aside0.mk (KeepBut.trans z1 hk (.inl rfl)); replace HB := Aside0.mk (hb); replace HI0 := Aside0.mk (hi); (try clear hb); (try clear hk); (try clear hi)))
     go_ret
     exact ⟨z4, z2, z6, z1⟩
    ·rw [if_neg c22] at H
     exact absurd H (by simp)
   ·rw [if_neg c21] at H
    exact absurd H (by simp)
  ·rw [if_neg c20] at H
   have c20b0 : (t133 == 1) = false := beq_eq_false_iff_ne.mpr c20
   have c20b1 : (t133 != 1) = true := bne_iff_ne.mpr c20
   by_cases c25 : t133 = 2
   ·rw [if_pos c25] at H
    have c25b0 : (t133 == 2) = true := beq_iff_eq.mpr c25
    have c25b1 : (t133 != 2) = false := bne_eq_false_iff_eq.mpr c25
    clear c25
    by_cases c26 : t130 < (a1.size : Int)
    ·rw [if_pos c26] at H
     have c26b0 : decide (t130 < (a1.size : Int)) = true := decide_eq_true c26
     clear c26
     by_cases c27 : 0 ≤ t130
     ·rw [if_pos c27] at H
      have c27b0 := eq_true c27
      have c27b1 : decide (0 ≤ t130) = true := decide_eq_true c27
      clear c27
      by_cases c28 : t130 ≤ (a1.size : Int)
      ·rw [if_pos c28] at H
       have c28b0 := eq_true c28
       have c28b1 : decide (t130 ≤ (a1.size : Int)) = true := decide_eq_true c28
       clear c28
       obtain ⟨ji29, hji29⟩ : ∃ j_ : Int, (wrap64 (t130 + 1)) = j_ := ⟨_, rfl⟩
       replace H : (if 0 ≤ (ji29) then (if (ji29) ≤ (a1.size : Int) then (if (a1.extract 0 (t130 : Int).toNat).size + (a1.extract ((ji29) : Int).toNat a1.size).size ≤ 9223372036854775807 then (some ((a1.extract 0 (t130 : Int).toNat) ++ (a1.extract ((ji29) : Int).toNat a1.size), t134, t135)) else (none)) else (none)) else (none)) = some (r1, r2, r3) := by first | (rw [hji29] at H; exact H) | (simp only [hji29] at H ⊢; exact H)
       (try rw [hji29] at A3)
       (try rw [hji29] at A4)
       have hji29w : (IntKind.i64.wrap (t130 + 1)) = ji29 := (i64_w _).trans hji29
       by_cases c30 : 0 ≤ (ji29)
       ·rw [if_pos c30] at H
        have c30b0 := eq_true c30
        have c30b1 : decide (0 ≤ (ji29)) = true := decide_eq_true c30
        clear c30
        by_cases c31 : (ji29) ≤ (a1.size : Int)
        ·rw [if_pos c31] at H
         have c31b0 := eq_true c31
         have c31b1 : decide ((ji29) ≤ (a1.size : Int)) = true := decide_eq_true c31
         clear c31
         by_cases c32 : (a1.extract 0 (t130 : Int).toNat).size + (a1.extract ((ji29) : Int).toNat a1.size).size ≤ 9223372036854775807
         ·rw [if_pos c32] at H
          have c32b0 := eq_true c32
          have c32b1 : decide ((a1.extract 0 (t130 : Int).toNat).size + (a1.extract ((ji29) : Int).toNat a1.size).size ≤ 9223372036854775807) = true := decide_eq_true c32
          try have c32b2 : (9223372036854775807 < (a1.extract 0 (t130 : Int).toNat).size + (a1.extract ((ji29) : Int).toNat a1.size).size) = False := eq_false (Nat.not_lt.2 c32)
          have c32j : (9223372036854775807 < t130.toNat + (a1.size - ji29.toNat)) = False := eq_false (by have h1_ := HSZ.out; have h3_ := of_decide_eq_true c28b1; omega)
          simp only [Option.some.injEq, Prod.mk.injEq] at H
          obtain ⟨rfl, rfl, rfl⟩ := H
          go_enter Tryz.func45, Tryz.ntmps45
          try go_wp2_with (first | ((with_reducible refine gate_callee (f := 44) rfl ?_); refine goesQ_ 11 Tryz.func44 #[.pointer (some ⟨g, 0, none⟩), .int .i64 ((a1.size : Int) + 1)] ?_; (with_reducible refine (spec_l1Below.calls g s0_0 s0_1 s0_2 ((a1.size : Int) + 1) t130 t131 t132 w0 _ ?side1 ?side2 A3.out).mono ?_); (case side1 => repeat (first | (with_reducible first | exact HI0.out | apply IsS62.alloc | apply IsS62.drewN | apply IsS62.drew | apply IsS62.set_1 | apply IsS62.set_2) | exact HI0.out)); (case side2 => repeat (first | (with_reducible first | exact HB.out | apply below_alloc | apply pw_below_drewN | apply below_drew1 | refine below_set ?_ (IsS62.ge HI0.out)) | exact HB.out)); rintro e w33 ⟨rfl, hi, hb, hk⟩; refine ⟨_, rfl, ?_⟩; replace HK := Aside0.mk (KeepBut.trans z1 hk (.inl rfl)); replace HB := Aside0.mk (hb); replace HI0 := Aside0.mk (hi); (try clear hb); (try clear hk); (try clear hi)) | ((with_reducible refine gate_callee (f := 44) rfl ?_); refine goesQ_ 13 Tryz.func44 #[.pointer (some ⟨g, 0, none⟩), .int .i64 4] ?_; (with_reducible refine (spec_l1Below.calls g s0_0 t131 t132 4 t133 t134 t135 w0 _ ?side1 ?side2 A4.out).mono ?_); (case side1 => repeat (first | (with_reducible first | exact HI0.out | apply IsS62.alloc | apply IsS62.drewN | apply IsS62.drew | apply IsS62.set_1 | apply IsS62.set_2) | exact HI0.out)); (case side2 => repeat (first | (with_reducible first | exact HB.out | apply below_alloc | apply pw_below_drewN | apply below_drew1 | refine below_set ?_ (IsS62.ge HI0.out)) | exact HB.out)); rintro e w34 ⟨rfl, hi, hb, hk⟩; refine ⟨_, rfl, ?_⟩; replace HK := Aside0.mk (KeepBut.trans z1 hk (.inl rfl)); replace HB := Aside0.mk (hb); replace HI0 := Aside0.mk (hi); (try clear hb); (try clear hk); (try clear hi)))
          have n0_ := Aside0.mk (IsS62.drew HI0.out)
          have n1_ := Aside0.mk (keep_drew HK.out)
          have n2_ := Aside0.mk (below_drew1 HB.out)
          clear HI0
          clear HK
          clear HB
          have HI0 := n0_
          have HK := n1_
          have HB := n2_
          clear n0_ n1_ n2_
          refine start_ (n := 9) (S := fun w' => True) (ds := []) #[false, false, false, false, false, false, false, false, false] (by kernel_rfl) rfl rfl trivial (fun hHeld => ?_); refine with_tabW spec_l1bend.tab9 spec_l1bend.bits9 (fun HT_ HW_ => ?_)
          generalize w34.drew = w35 at HI0 HK HB hHeld ⊢
          refine pz 0 40 ?_
          refine pz 1 41 ?_
          refine pz 2 42 ?_
          refine pz 3 43 ?_
          refine pz 4 44 ?_
          refine pz 5 45 ?_
          refine pz 6 46 ?_
          refine pz 7 47 ?_
          refine pz 8 4 ?_
          refine done_ (done_of HT_.out (by kernel_rfl)) ?_
          try go_wp2
          go_ret
          exact ⟨z47, z2, z6, z1⟩
         ·rw [if_neg c32] at H
          exact absurd H (by simp)
        ·rw [if_neg c31] at H
         exact absurd H (by simp)
       ·rw [if_neg c30] at H
        exact absurd H (by simp)
      ·rw [if_neg c28] at H
       exact absurd H (by simp)
     ·rw [if_neg c27] at H
      exact absurd H (by simp)
    ·rw [if_neg c26] at H
     have c26b0 : decide (t130 < (a1.size : Int)) = false := decide_eq_false c26
     clear c26
     by_cases c36 : a1.size + 1 ≤ 9223372036854775807
     ·rw [if_pos c36] at H
      have c36b0 := eq_true c36
      have c36b1 : decide (a1.size + 1 ≤ 9223372036854775807) = true := decide_eq_true c36
      try have c36b2 : (9223372036854775807 < a1.size + 1) = False := eq_false (Nat.not_lt.2 c36)
      simp only [Option.some.injEq, Prod.mk.injEq] at H
      obtain ⟨rfl, rfl, rfl⟩ := H
      go_enter Tryz.func45, Tryz.ntmps45
      go_wp2_with (first | ((with_reducible refine gate_callee (f := 44) rfl ?_); refine goesQ_ 11 Tryz.func44 #[.pointer (some ⟨g, 0, none⟩), .int .i64 ((a1.size : Int) + 1)] ?_; (with_reducible refine (spec_l1Below.calls g s0_0 s0_1 s0_2 ((a1.size : Int) + 1) t130 t131 t132 w0 _ ?side1 ?side2 A3.out).mono ?_); (case side1 => repeat (first | (with_reducible first | exact HI0.out | apply IsS62.alloc | apply IsS62.drewN | apply IsS62.drew | apply IsS62.set_1 | apply IsS62.set_2) | exact HI0.out)); (case side2 => repeat (first | (with_reducible first | exact HB.out | apply below_alloc | apply pw_below_drewN | apply below_drew1 | refine below_set ?_ (IsS62.ge HI0.out)) | exact HB.out)); rintro e w37 ⟨rfl, hi, hb, hk⟩; refine ⟨_, rfl, ?_⟩; replace HK := Aside0.mk (KeepBut.trans z1 hk (.inl rfl)); replace HB := Aside0.mk (hb); replace HI0 := Aside0.mk (hi); (try clear hb); (try clear hk); (try clear hi)) | ((with_reducible refine gate_callee (f := 44) rfl ?_); refine goesQ_ 13 Tryz.func44 #[.pointer (some ⟨g, 0, none⟩), .int .i64 4] ?_; (with_reducible refine (spec_l1Below.calls g s0_0 t131 t132 4 t133 t134 t135 w0 _ ?side1 ?side2 A4.out).mono ?_); (case side1 => repeat (first | (with_reducible first | exact HI0.out | apply IsS62.alloc | apply IsS62.drewN | apply IsS62.drew | apply IsS62.set_1 | apply IsS62.set_2) | exact HI0.out)); (case side2 => repeat (first | (with_reducible first | exact HB.out | apply below_alloc | apply pw_below_drewN | apply below_drew1 | refine below_set ?_ (IsS62.ge HI0.out)) | exact HB.out)); rintro e w38 ⟨rfl, hi, hb, hk⟩; refine ⟨_, rfl, ?_⟩; replace HK := Aside0.mk (KeepBut.trans z1 hk (.inl rfl)); replace HB := Aside0.mk (hb); replace HI0 := Aside0.mk (hi); (try clear hb); (try clear hk); (try clear hi)))
      go_ret
      exact ⟨z4, z2, z6, z1⟩
     ·rw [if_neg c36] at H
      exact absurd H (by simp)
   ·rw [if_neg c25] at H
    have c25b0 : (t133 == 2) = false := beq_eq_false_iff_ne.mpr c25
    have c25b1 : (t133 != 2) = true := bne_iff_ne.mpr c25
    by_cases c39 : t130 < (a1.size : Int)
    ·rw [if_pos c39] at H
     have c39b0 : decide (t130 < (a1.size : Int)) = true := decide_eq_true c39
     clear c39
     obtain ⟨y142, hy142⟩ : ∃ y_ : List Int, y_ = (bytesOf a1) := ⟨_, rfl⟩
     replace H : (if 0 ≤ t130 then (if t130 < (y142.length : Int) then ((spec_l1Below.f s0_0 t134 t135 8).bind fun bt146 => (if 0 ≤ bt146.1 then (some (strOfNums (y142.set (t130 : Int).toNat (Go.bits .xor .u8 (rd y142 t130) (shl .u8 1 bt146.1))), bt146.2.1, bt146.2.2)) else (none))) else (none)) else (none)) = some (r1, r2, r3) := by first | (rw [hy142]; with_reducible exact H) | (have H2_ := (Option.bind_some _ _).symm.trans H; rw [hy142]; with_reducible exact H2_) | (have H2_ := (Option.bind_some _ _).symm.trans H; with_reducible exact H2_) | with_reducible exact H | (rw [hy142]; exact H) | exact H
     have Ny142 := Aside0.mk hy142
     clear hy142
     by_cases c40 : 0 ≤ t130
     ·rw [if_pos c40] at H
      have c40b0 : decide (0 ≤ t130) = true := decide_eq_true c40
      clear c40
      by_cases c41 : t130 < (y142.length : Int)
      ·rw [if_pos c41] at H
       have c41b0 : decide (t130 < (y142.length : Int)) = true := decide_eq_true c41
       clear c41
       replace H := Option.bind_eq_some_iff.mp H
       obtain ⟨⟨t146, t147, t148⟩, A420, H⟩ := H
       try dsimp only at H
       have A42 := Aside0.mk A420
       clear A420
       by_cases c43 : 0 ≤ t146
       ·rw [if_pos c43] at H
        have c43b0 := eq_true c43
        have c43b1 : decide (0 ≤ t146) = true := decide_eq_true c43
        clear c43
        obtain ⟨ji44, hji44⟩ : ∃ j_ : Int, (shl .u8 1 t146) = j_ := ⟨_, rfl⟩
        replace H : (some (strOfNums (y142.set (t130 : Int).toNat (Go.bits .xor .u8 (rd y142 t130) (ji44))), t147, t148)) = some (r1, r2, r3) := by first | (rw [hji44] at H; exact H) | (simp only [hji44] at H ⊢; exact H)
        (try rw [hji44] at A3)
        (try rw [hji44] at A4)
        (try rw [hji44] at A42)
        have hji44_ : (IntKind.u8.wrap (1 * 2 ^ min t146.toNat 8)) = ji44 := hji44
        have hji44z : t146 ≤ 8 → (IntKind.u8.wrap (1 * 2 ^ t146.toNat)) = ji44 := shl_small hji44
        have hji44u : (IntKind.u8.wrap (2 ^ min t146.toNat 8)) = ji44 := by have h_ := hji44_; rw [Int.one_mul] at h_; exact h_
        have hji44v : t146 ≤ 8 → (IntKind.u8.wrap (2 ^ t146.toNat)) = ji44 := fun hle_ => by have h_ := hji44z hle_; rw [Int.one_mul] at h_; exact h_
        obtain ⟨y149, hy149⟩ : ∃ y_ : List Int, y_ = (y142.set (t130 : Int).toNat (Go.bits .xor .u8 (rd y142 t130) (ji44))) := ⟨_, rfl⟩
        replace H : (some (strOfNums y149, t147, t148)) = some (r1, r2, r3) := by first | (rw [hy149]; with_reducible exact H) | (have H2_ := (Option.bind_some _ _).symm.trans H; rw [hy149]; with_reducible exact H2_) | (have H2_ := (Option.bind_some _ _).symm.trans H; with_reducible exact H2_) | with_reducible exact H | (rw [hy149]; exact H) | exact H
        have Ny149 := Aside0.mk hy149
        clear hy149
        simp only [Option.some.injEq, Prod.mk.injEq] at H
        obtain ⟨rfl, rfl, rfl⟩ := H
        have kb := fun W => print_bytes (P := Tryz.prog) 9 22 5 Tryz.underlying9 Tryz.underlying22 Tryz.underlying5 a1 W
        go_enter Tryz.func45, Tryz.ntmps45
        go_wp2_with (first | ((with_reducible refine gate_callee (f := 44) rfl ?_); refine goesQ_ 11 Tryz.func44 #[.pointer (some ⟨g, 0, none⟩), .int .i64 ((a1.size : Int) + 1)] ?_; (with_reducible refine (spec_l1Below.calls g s0_0 s0_1 s0_2 ((a1.size : Int) + 1) t130 t131 t132 w0 _ ?side1 ?side2 A3.out).mono ?_); (case side1 => repeat (first | (with_reducible first | exact HI0.out | apply IsS62.alloc | apply IsS62.drewN | apply IsS62.drew | apply IsS62.set_1 | apply IsS62.set_2) | exact HI0.out)); (case side2 => repeat (first | (with_reducible first | exact HB.out | apply below_alloc | apply pw_below_drewN | apply below_drew1 | refine below_set ?_ (IsS62.ge HI0.out)) | exact HB.out)); rintro e w46 ⟨rfl, hi, hb, hk⟩; refine ⟨_, rfl, ?_⟩; replace HK := Aside0.mk (KeepBut.trans z1 hk (.inl rfl)); replace HB := Aside0.mk (hb); replace HI0 := Aside0.mk (hi); (try clear hb); (try clear hk); (try clear hi)) | ((with_reducible refine gate_callee (f := 44) rfl ?_); refine goesQ_ 13 Tryz.func44 #[.pointer (some ⟨g, 0, none⟩), .int .i64 4] ?_; (with_reducible refine (spec_l1Below.calls g s0_0 t131 t132 4 t133 t134 t135 w0 _ ?side1 ?side2 A4.out).mono ?_); (case side1 => repeat (first | (with_reducible first | exact HI0.out | apply IsS62.alloc | apply IsS62.drewN | apply IsS62.drew | apply IsS62.set_1 | apply IsS62.set_2) | exact HI0.out)); (case side2 => repeat (first | (with_reducible first | exact HB.out | apply below_alloc | apply pw_below_drewN | apply below_drew1 | refine below_set ?_ (IsS62.ge HI0.out)) | exact HB.out)); rintro e w47 ⟨rfl, hi, hb, hk⟩; refine ⟨_, rfl, ?_⟩; replace HK := Aside0.mk (KeepBut.trans z1 hk (.inl rfl)); replace HB := Aside0.mk (hb); replace HI0 := Aside0.mk (hi); (try clear hb); (try clear hk); (try clear hi)))
        have hbb_ := bytes_below (Below.refl w47.heap.size w47) (Nat.le_refl _) 5 a1
        have HR := BRow.new w47 5 a1
        have hlt_ := IsS62.lt HI0.out
        have hge_ : w.heap.size ≤ w47.heap.size := keep_size HK.out
        have n1_ := Aside0.mk (IsS62.drew (IsS62.below HI0.out hbb_))
        have n2_ := Aside0.mk (keep_drew (KeepBut.trans HK.out (KeepBut.of_below hbb_ g none) (.inl rfl)))
        have n3_ := Aside0.mk (below_drew1 (below_step HB.out hbb_))
        clear HI0 HK HB hbb_ kb
        have HI0 := n1_
        have HK := n2_
        have HB := n3_
        clear n1_ n2_ n3_
        generalize grownCap w47 a1.size 0 5 = cB
        generalize Lib.bytesWorld w47 5 a1 = w48 at HR HI0 HK HB ⊢
        obtain ⟨gB, hgB⟩ : ∃ gB, w47.heap.size = gB := ⟨_, rfl⟩
        rw [hgB] at HR hlt_ hge_ ⊢
        have HNE := Aside0.mk (show g ≠ gB from Nat.ne_of_lt hlt_)
        have GB45 := Aside0.mk hge_
        clear hlt_ hge_ hgB
        rw [← Ny142.out] at HR
        have hyl_ : y142.length = a1.size := by rw [Ny142.out]; exact bytesOf_length a1
        have HYL := Aside0.mk hyl_
        clear hyl_
        have HR0 := Aside0.mk (show BRow w48.drew gB y142 from HR)
        clear HR
        have p145 : 0 ≤ (t130 : Int) := of_decide_eq_true z3
        have q145 : t130 < (y142.length : Int) := of_decide_eq_true z3
        obtain ⟨ad145, had_⟩ : ∃ ad_ : Addr, ad_ = ⟨gB, 0, none⟩ := ⟨_, rfl⟩
        rw [← had_]
        have HAD := Aside0.mk had_
        clear had_
        have hx145_0 : w48.drew.cell? (ad145.add (t130).toNat) = some (.int .u8 (rd y142 t130)) := by rw [HAD.out, add_plain]; exact HR0.out.cell t130.toNat (by omega)
        have q146 : t130 < (a1.size : Int) := by rw [← HYL.out]; exact q145
        replace p145 := eq_true p145
        replace q145 := eq_true q145
        replace q146 := eq_true q146
        refine start_ (n := 12) (S := fun w' => w'.cell? (ad145.add (t130).toNat) = some (.int .u8 (rd y142 t130))) (ds := [11]) #[false, false, false, false, false, false, false, false, false, false, false, false] (by kernel_rfl) rfl rfl (hx145_0) (fun hHeld => ?_); refine with_tabW spec_l1bend.tab12 spec_l1bend.bits12 (fun HT_ HW_ => ?_)
        generalize w48.drew = w50 at HR0 HI0 HK HB hx145_0 hHeld ⊢
        refine pz 0 54 ?_
        refine pz 1 55 ?_
        refine pz 2 56 ?_
        refine pz 3 57 ?_
        refine pz 4 58 ?_
        refine pz 6 60 ?_
        refine tk (i := 5) (N := some 59) (v := ?_) (a' := ?_) rfl rfl (take_ofW HT_.out HW_.out (by kernel_rfl)) (Or.inl ⟨by rfl, ?_⟩) hHeld ?_ ?_
        rotate_left
        ·intro w' s0
         go_simp
         with_reducible rfl
        rotate_left
        ·simp only [Act.put, List.setIfInBounds_toArray, List.set_cons_zero, List.set_cons_succ, i64_w, i32_w]
         rfl
        refine oz 7 61 (fun K hK => ?_)
        refine goes_ Tryz.func44 (by kernel_rfl) rfl #[.pointer (some ⟨g, 0, none⟩), .int .i64 8] (by rfl) rfl rfl z8 ?_
        with_reducible refine (spec_l1Below.calls g s0_0 t134 t135 8 t146 t147 t148 w0 _ ?side1 ?side2 A42.out).mono ?_
        (case side1 => repeat (first | (with_reducible first | exact HI0.out | apply IsS62.alloc | apply IsS62.drewN | apply IsS62.drew | apply IsS62.set_1 | apply IsS62.set_2) | exact HI0.out))
        (case side2 => repeat (first | (with_reducible first | exact HB.out | apply below_alloc | apply pw_below_drewN | apply below_drew1 | refine below_set ?_ (IsS62.ge HI0.out)) | exact HB.out))
        rintro e w52 ⟨rfl, hi, hb, hk⟩
        have HS0_ := keep_cell hk (hHeld) (by rw [add_block, HAD.out]; exact fun e_ => HNE.out e_.symm)
        refine ⟨_, rfl, ?_⟩
        have hR52 : BRow w52 gB y142 := by
         obtain ⟨cs, e, h0, h1⟩ := HR0.out
         exact ⟨cs, e, by rw [hk.2 gB (blk_lt h0) (fun e_ => HNE.out e_.symm) (by simp)]; exact h0, h1⟩
        have n1_ := Aside0.mk (KeepBut.trans HK.out hk (.inl rfl))
        have n2_ := Aside0.mk (hb)
        have n3_ := Aside0.mk (hi)
        clear HK HB HI0 HR0
        have HK := n1_
        have HB := n2_
        have HI0 := n3_
        clear n1_ n2_ n3_
        (try clear hb)
        (try clear hb2)
        (try clear hk)
        (try clear hi)
        have had_ := HAD.out
        clear HAD
        subst had_
        (first | simp only [add_plain] at hx145_0 | skip)
        have hx45_0 := hR52.cell t130.toNat (by have h1_ := of_eq_true q145; have h2_ := of_eq_true p145; omega)
        have hf45_0 := hR52.frozen t130.toNat (by have h1_ := of_eq_true q145; have h2_ := of_eq_true p145; omega)
        have HN0_go45 := HNE
        have HP53 := hR52.set t130.toNat (Go.bits .xor .u8 (rd y142 t130) (ji44))
        rw [← Ny149.out] at HP53
        have HQ53 := Aside0.mk HP53
        have HLN := Aside0.mk (show y149.length = a1.size by rw [Ny149.out, List.length_set]; exact HYL.out)
        clear HP53 hR52
        refine hK.out _ _ (HS0_) (fun hHeld => ?_)
        clear hK K
        refine nz ?_
        refine pz 8 62 ?_
        refine pz 9 63 ?_
        refine pz 10 64 ?_
        refine last_ (i := 11) (N := none) #[true, true, true, true, true, true, true, true, true, true, true, true] rfl rfl (one_of HT_.out (by kernel_rfl)) (by decide) (fun K hK => ?_)
        refine skip_ (w1 := ?_) (by rfl) rfl ?_ ?_
        rotate_left
        ·go_simp
         rfl
        refine hK.out _ _ ?_
        clear hK K
        refine done_ (done_of HT_.out (by kernel_rfl)) ?_
        have hcv54 := BRow.string (P := Tryz.prog) (c := cB) Tryz.underlying22 Tryz.underlying5 Tryz.underlying9 HQ53.out HLN.out
        try go_wp2
        go_ret
        exact ⟨by first | rfl | (simp [errW_none, errW_some] <;> rfl) | (simp only [← hji44]; first | rfl | (simp [errW_none, errW_some] <;> rfl)) | (simp [*, errW_none, errW_some] <;> rfl), by repeat (first | (with_reducible first | exact HI0.out | apply IsS62.alloc | apply IsS62.drewN | apply IsS62.drew | apply IsS62.set_1 | apply IsS62.set_2 | refine IsS62.far ?_ HN0_go45.out _) | exact HI0.out), by repeat (first | (with_reducible first | exact HB.out | apply below_alloc | apply pw_below_drewN | apply below_drew1 | refine below_set ?_ (Nat.le_trans HL.out GB45.out) | refine below_set ?_ (IsS62.ge HI0.out)) | exact HB.out), by repeat (first | (with_reducible first | exact HK.out | apply KeepBut.set_ | apply keep_drewN | apply keep_drew | apply keep_alloc | refine keep_far ?_ GB45.out _) | exact HK.out)⟩
       ·rw [if_neg c43] at H
        exact absurd H (by simp)
      ·rw [if_neg c41] at H
       exact absurd H (by simp)
     ·rw [if_neg c40] at H
      exact absurd H (by simp)
    ·rw [if_neg c39] at H
     have c39b0 : decide (t130 < (a1.size : Int)) = false := decide_eq_false c39
     clear c39
     by_cases c55 : a1.size + 1 ≤ 9223372036854775807
     ·rw [if_pos c55] at H
      have c55b0 := eq_true c55
      have c55b1 : decide (a1.size + 1 ≤ 9223372036854775807) = true := decide_eq_true c55
      try have c55b2 : (9223372036854775807 < a1.size + 1) = False := eq_false (Nat.not_lt.2 c55)
      simp only [Option.some.injEq, Prod.mk.injEq] at H
      obtain ⟨rfl, rfl, rfl⟩ := H
      go_enter Tryz.func45, Tryz.ntmps45
      go_wp2_with (first | ((with_reducible refine gate_callee (f := 44) rfl ?_); refine goesQ_ 11 Tryz.func44 #[.pointer (some ⟨g, 0, none⟩), .int .i64 ((a1.size : Int) + 1)] ?_; (with_reducible refine (spec_l1Below.calls g s0_0 s0_1 s0_2 ((a1.size : Int) + 1) t130 t131 t132 w0 _ ?side1 ?side2 A3.out).mono ?_); (case side1 => repeat (first | (with_reducible first | exact HI0.out | apply IsS62.alloc | apply IsS62.drewN | apply IsS62.drew | apply IsS62.set_1 | apply IsS62.set_2) | exact HI0.out)); (case side2 => repeat (first | (with_reducible first | exact HB.out | apply below_alloc | apply pw_below_drewN | apply below_drew1 | refine below_set ?_ (IsS62.ge HI0.out)) | exact HB.out)); rintro e w56 ⟨rfl, hi, hb, hk⟩; refine ⟨_, rfl, ?_⟩; replace HK := Aside0.mk (KeepBut.trans z1 hk (.inl rfl)); replace HB := Aside0.mk (hb); replace HI0 := Aside0.mk (hi); (try clear hb); (try clear hk); (try clear hi)) | ((with_reducible refine gate_callee (f := 44) rfl ?_); refine goesQ_ 13 Tryz.func44 #[.pointer (some ⟨g, 0, none⟩), .int .i64 4] ?_; (with_reducible refine (spec_l1Below.calls g s0_0 t131 t132 4 t133 t134 t135 w0 _ ?side1 ?side2 A4.out).mono ?_); (case side1 => repeat (first | (with_reducible first | exact HI0.out | apply IsS62.alloc | apply IsS62.drewN | apply IsS62.drew | apply IsS62.set_1 | apply IsS62.set_2) | exact HI0.out)); (case side2 => repeat (first | (with_reducible first | exact HB.out | apply below_alloc | apply pw_below_drewN | apply below_drew1 | refine below_set ?_ (IsS62.ge HI0.out)) | exact HB.out)); rintro e w57 ⟨rfl, hi, hb, hk⟩; refine ⟨_, rfl, ?_⟩; replace HK := Aside0.mk (KeepBut.trans z1 hk (.inl rfl)); replace HB := Aside0.mk (hb); replace HI0 := Aside0.mk (hi); (try clear hb); (try clear hk); (try clear hi)))
      go_ret
      exact ⟨z4, z2, z6, z1⟩
     ·rw [if_neg c55] at H
      exact absurd H (by simp)


/-! ### spec_l7urlBent: function 39 -/
def spec_l7urlBent.f (k : Nat) (s0_0 : List Int) (s0_1 : Int) (s0_2 : Int) : Option (ByteArray × Int × Int) := (spec_l7url.f k s0_0 s0_1 s0_2).bind fun bt306 => ((spec_l1Below.f s0_0 bt306.2.1 bt306.2.2 9).bind fun bt309 => (if bt309.1 = 0 then ((spec_l1bend.f s0_0 bt309.2.1 bt309.2.2 bt306.1).bind fun bt312 => (some (bt312.1, bt312.2.1, bt312.2.2))) else (if bt309.1 = 1 then ((spec_l1Below.f s0_0 bt309.2.1 bt309.2.2 2).bind fun bt315 => ((spec_l1of.f k s0_0 bt315.2.1 bt315.2.2 (wrap64 (191 + bt315.1)) (⟨#[116]⟩ : ByteArray)).bind fun bt318 => (if 9 + bt318.1.size ≤ 9223372036854775807 then (some ((⟨#[104, 116, 116, 112, 58, 47, 47, 97, 47]⟩ : ByteArray) ++ bt318.1, bt318.2.1, bt318.2.2)) else (none)))) else (if bt309.1 = 2 then ((some (([(⟨#[104, 116, 116, 112, 58, 47, 47]⟩ : ByteArray), (⟨#[104, 116, 116, 112, 58, 47, 47, 47]⟩ : ByteArray), (⟨#[104, 116, 116, 112, 58, 47, 47, 97, 58]⟩ : ByteArray), (⟨#[104, 116, 116, 112, 58, 47, 47, 97, 58, 48]⟩ : ByteArray), (⟨#[104, 116, 116, 112, 58, 47, 47, 97, 58, 54, 53, 53, 51, 54]⟩ : ByteArray), (⟨#[104, 116, 116, 112, 58, 47, 47, 97, 46, 46, 98, 47]⟩ : ByteArray), (⟨#[104, 116, 116, 112, 58, 47, 47, 97, 47, 35]⟩ : ByteArray), (⟨#[104, 116, 116, 112, 58, 47, 47, 46, 97]⟩ : ByteArray), (⟨#[104, 116, 116, 112, 58, 47, 47, 97, 63, 98, 35]⟩ : ByteArray)] : List ByteArray) : List ByteArray)).bind fun y321 => ((spec_l1Below.f s0_0 bt309.2.1 bt309.2.2 9).bind fun bt324 => (if 0 ≤ bt324.1 then (if bt324.1 < (y321.length : Int) then (some (rdOf ByteArray.empty y321 bt324.1, bt324.2.1, bt324.2.2)) else (none)) else (none)))) else (some (bt306.1, bt309.2.1, bt309.2.2))))))
theorem spec_l7urlBent.mono : ∀ a0 a1 a2 k, LeO (spec_l7urlBent.f k a0 a1 a2) (spec_l7urlBent.f (k + 1) a0 a1 a2) := by
 intro a0 a1 a2 k
 unfold spec_l7urlBent.f
 repeat' first | (with_reducible first | exact spec_l1of.mono _ _ _ _ _ _ | exact spec_l7url.mono _ _ _ _ | exact LeO.refl _ | exact LeO.none _ | refine LeO.ite ?_ ?_ | refine LeO.bind ?_ (fun _ => ?_)) | exact spec_l1of.mono _ _ _ _ _ _ | exact spec_l7url.mono _ _ _ _ | exact LeO.none _ | refine LeO.ite ?_ ?_ | refine LeO.bind ?_ (fun _ => ?_)
set_option maxHeartbeats 8000000 in
set_option maxRecDepth 100000 in
theorem spec_l7urlBent.calls (k : Nat) (g : Nat) (s0_0 : List Int) (s0_1 : Int) (s0_2 : Int) (r1 : ByteArray) (r2 : Int) (r3 : Int) (w0 w : World) (hI : IsS62 w0 w g s0_0 s0_1 s0_2) (hB : Below w0.heap.size w0 w) (h : spec_l7urlBent.f k s0_0 s0_1 s0_2 = some (r1, r2, r3)) :
  Calls Tryz.prog 39 #[.pointer (some ⟨g, 0, none⟩)] w fun e w' => e = .returned (.string r1) ∧ IsS62 w0 w' g s0_0 r2 r3 ∧ Below w0.heap.size w0 w' ∧ KeepBut w w' g none := by
 have HI0 := Aside0.mk hI
 have HK := Aside0.mk (KeepBut.refl w g none)
 have HL := Aside0.mk hB.size
 clear hI
 have HW0 := Aside0.mk hB.size
 have HB := Aside0.mk hB
 clear hB
 have H : ((spec_l7url.f k s0_0 s0_1 s0_2).bind fun bt306 => ((spec_l1Below.f s0_0 bt306.2.1 bt306.2.2 9).bind fun bt309 => (if bt309.1 = 0 then ((spec_l1bend.f s0_0 bt309.2.1 bt309.2.2 bt306.1).bind fun bt312 => (some (bt312.1, bt312.2.1, bt312.2.2))) else (if bt309.1 = 1 then ((spec_l1Below.f s0_0 bt309.2.1 bt309.2.2 2).bind fun bt315 => ((spec_l1of.f k s0_0 bt315.2.1 bt315.2.2 (wrap64 (191 + bt315.1)) (⟨#[116]⟩ : ByteArray)).bind fun bt318 => (if 9 + bt318.1.size ≤ 9223372036854775807 then (some ((⟨#[104, 116, 116, 112, 58, 47, 47, 97, 47]⟩ : ByteArray) ++ bt318.1, bt318.2.1, bt318.2.2)) else (none)))) else (if bt309.1 = 2 then ((some (([(⟨#[104, 116, 116, 112, 58, 47, 47]⟩ : ByteArray), (⟨#[104, 116, 116, 112, 58, 47, 47, 47]⟩ : ByteArray), (⟨#[104, 116, 116, 112, 58, 47, 47, 97, 58]⟩ : ByteArray), (⟨#[104, 116, 116, 112, 58, 47, 47, 97, 58, 48]⟩ : ByteArray), (⟨#[104, 116, 116, 112, 58, 47, 47, 97, 58, 54, 53, 53, 51, 54]⟩ : ByteArray), (⟨#[104, 116, 116, 112, 58, 47, 47, 97, 46, 46, 98, 47]⟩ : ByteArray), (⟨#[104, 116, 116, 112, 58, 47, 47, 97, 47, 35]⟩ : ByteArray), (⟨#[104, 116, 116, 112, 58, 47, 47, 46, 97]⟩ : ByteArray), (⟨#[104, 116, 116, 112, 58, 47, 47, 97, 63, 98, 35]⟩ : ByteArray)] : List ByteArray) : List ByteArray)).bind fun y321 => ((spec_l1Below.f s0_0 bt309.2.1 bt309.2.2 9).bind fun bt324 => (if 0 ≤ bt324.1 then (if bt324.1 < (y321.length : Int) then (some (rdOf ByteArray.empty y321 bt324.1, bt324.2.1, bt324.2.2)) else (none)) else (none)))) else (some (bt306.1, bt309.2.1, bt309.2.2))))))) = some (r1, r2, r3) := h
 clear h
 replace H := Option.bind_eq_some_iff.mp H
 obtain ⟨⟨t306, t307, t308⟩, A20, H⟩ := H
 try dsimp only at H
 have A2 := Aside0.mk A20
 clear A20
 replace H := Option.bind_eq_some_iff.mp H
 obtain ⟨⟨t309, t310, t311⟩, A30, H⟩ := H
 try dsimp only at H
 have A3 := Aside0.mk A30
 clear A30
 by_cases c4 : t309 = 0
 ·rw [if_pos c4] at H
  have c4b0 : (t309 == 0) = true := beq_iff_eq.mpr c4
  have c4b1 : (t309 != 0) = false := bne_eq_false_iff_eq.mpr c4
  clear c4
  replace H := Option.bind_eq_some_iff.mp H
  obtain ⟨⟨t312, t313, t314⟩, A50, H⟩ := H
  try dsimp only at H
  have A5 := Aside0.mk A50
  clear A50
  simp only [Option.some.injEq, Prod.mk.injEq] at H
  obtain ⟨rfl, rfl, rfl⟩ := H
  go_enter Tryz.func39, Tryz.ntmps39
  go_wp2_with (first | ((with_reducible refine gate_callee (f := 42) rfl ?_); refine goesQ_ 5 Tryz.func42 #[.pointer (some ⟨g, 0, none⟩)] ?_; (with_reducible refine (spec_l7url.calls k g s0_0 s0_1 s0_2 t306 t307 t308 w0 _ ?side1 ?side2 A2.out).mono ?_); (case side1 => repeat (first | (with_reducible first | exact HI0.out | apply IsS62.alloc | apply IsS62.drewN | apply IsS62.drew | apply IsS62.set_1 | apply IsS62.set_2) | exact HI0.out)); (case side2 => repeat (first | (with_reducible first | exact HB.out | apply below_alloc | apply pw_below_drewN | apply below_drew1 | refine below_set ?_ (IsS62.ge HI0.out)) | exact HB.out)); rintro e w6 ⟨rfl, hi, hb, hk⟩; refine ⟨_, rfl, ?_⟩; replace HK := Aside0.mk (KeepBut.trans z1 hk (.inl rfl)); replace HB := Aside0.mk (hb); replace HI0 := Aside0.mk (hi); (try clear hb); (try clear hk); (try clear hi)) | ((with_reducible refine gate_callee (f := 44) rfl ?_); refine goesQ_ 7 Tryz.func44 #[.pointer (some ⟨g, 0, none⟩), .int .i64 9] ?_; (with_reducible refine (spec_l1Below.calls g s0_0 t307 t308 9 t309 t310 t311 w0 _ ?side1 ?side2 A3.out).mono ?_); (case side1 => repeat (first | (with_reducible first | exact HI0.out | apply IsS62.alloc | apply IsS62.drewN | apply IsS62.drew | apply IsS62.set_1 | apply IsS62.set_2) | exact HI0.out)); (case side2 => repeat (first | (with_reducible first | exact HB.out | apply below_alloc | apply pw_below_drewN | apply below_drew1 | refine below_set ?_ (IsS62.ge HI0.out)) | exact HB.out)); rintro e w7 ⟨rfl, hi, hb, hk⟩; refine ⟨_, rfl, ?_⟩; replace HK := Aside0.mk (KeepBut.trans z1 hk (.inl rfl)); replace HB := Aside0.mk (hb); replace HI0 := Aside0.mk (hi); (try clear hb); (try clear hk); (try clear hi)) | ((with_reducible refine gate_callee (f := 45) rfl ?_); refine goesQ_ 12 Tryz.func45 #[.pointer (some ⟨g, 0, none⟩), .string t306] ?_; (with_reducible refine (spec_l1bend.calls g s0_0 t310 t311 t306 t312 t313 t314 w0 _ ?side1 ?side2 A5.out).mono ?_); (case side1 => repeat (first | (with_reducible first | exact HI0.out | apply IsS62.alloc | apply IsS62.drewN | apply IsS62.drew | apply IsS62.set_1 | apply IsS62.set_2) | exact HI0.out)); (case side2 => repeat (first | (with_reducible first | exact HB.out | apply below_alloc | apply pw_below_drewN | apply below_drew1 | refine below_set ?_ (IsS62.ge HI0.out)) | exact HB.out)); rintro e w8 ⟨rfl, hi, hb, hk⟩; refine ⟨_, rfl, ?_⟩; replace HK := Aside0.mk (KeepBut.trans z1 hk (.inl rfl)); replace HB := Aside0.mk (hb); replace HI0 := Aside0.mk (hi); (try clear hb); (try clear hk); (try clear hi)))
  go_ret
  exact ⟨z4, z2, z6, z1⟩
 ·rw [if_neg c4] at H
  have c4b0 : (t309 == 0) = false := beq_eq_false_iff_ne.mpr c4
  have c4b1 : (t309 != 0) = true := bne_iff_ne.mpr c4
  by_cases c9 : t309 = 1
  ·rw [if_pos c9] at H
   have c9b0 : (t309 == 1) = true := beq_iff_eq.mpr c9
   have c9b1 : (t309 != 1) = false := bne_eq_false_iff_eq.mpr c9
   clear c9
   replace H := Option.bind_eq_some_iff.mp H
   obtain ⟨⟨t315, t316, t317⟩, A100, H⟩ := H
   try dsimp only at H
   have A10 := Aside0.mk A100
   clear A100
   replace H := Option.bind_eq_some_iff.mp H
   obtain ⟨⟨t318, t319, t320⟩, A110, H⟩ := H
   try dsimp only at H
   have A11 := Aside0.mk A110
   clear A110
   by_cases c12 : 9 + t318.size ≤ 9223372036854775807
   ·rw [if_pos c12] at H
    have c12b0 := eq_true c12
    have c12b1 : decide (9 + t318.size ≤ 9223372036854775807) = true := decide_eq_true c12
    try have c12b2 : (9223372036854775807 < 9 + t318.size) = False := eq_false (Nat.not_lt.2 c12)
    simp only [Option.some.injEq, Prod.mk.injEq] at H
    obtain ⟨rfl, rfl, rfl⟩ := H
    go_enter Tryz.func39, Tryz.ntmps39
    go_wp2_with (first | ((with_reducible refine gate_callee (f := 42) rfl ?_); refine goesQ_ 5 Tryz.func42 #[.pointer (some ⟨g, 0, none⟩)] ?_; (with_reducible refine (spec_l7url.calls k g s0_0 s0_1 s0_2 t306 t307 t308 w0 _ ?side1 ?side2 A2.out).mono ?_); (case side1 => repeat (first | (with_reducible first | exact HI0.out | apply IsS62.alloc | apply IsS62.drewN | apply IsS62.drew | apply IsS62.set_1 | apply IsS62.set_2) | exact HI0.out)); (case side2 => repeat (first | (with_reducible first | exact HB.out | apply below_alloc | apply pw_below_drewN | apply below_drew1 | refine below_set ?_ (IsS62.ge HI0.out)) | exact HB.out)); rintro e w13 ⟨rfl, hi, hb, hk⟩; refine ⟨_, rfl, ?_⟩; replace HK := Aside0.mk (KeepBut.trans z1 hk (.inl rfl)); replace HB := Aside0.mk (hb); replace HI0 := Aside0.mk (hi); (try clear hb); (try clear hk); (try clear hi)) | ((with_reducible refine gate_callee (f := 44) rfl ?_); refine goesQ_ 7 Tryz.func44 #[.pointer (some ⟨g, 0, none⟩), .int .i64 9] ?_; (with_reducible refine (spec_l1Below.calls g s0_0 t307 t308 9 t309 t310 t311 w0 _ ?side1 ?side2 A3.out).mono ?_); (case side1 => repeat (first | (with_reducible first | exact HI0.out | apply IsS62.alloc | apply IsS62.drewN | apply IsS62.drew | apply IsS62.set_1 | apply IsS62.set_2) | exact HI0.out)); (case side2 => repeat (first | (with_reducible first | exact HB.out | apply below_alloc | apply pw_below_drewN | apply below_drew1 | refine below_set ?_ (IsS62.ge HI0.out)) | exact HB.out)); rintro e w14 ⟨rfl, hi, hb, hk⟩; refine ⟨_, rfl, ?_⟩; replace HK := Aside0.mk (KeepBut.trans z1 hk (.inl rfl)); replace HB := Aside0.mk (hb); replace HI0 := Aside0.mk (hi); (try clear hb); (try clear hk); (try clear hi)) | ((with_reducible refine gate_callee (f := 44) rfl ?_); refine goesQ_ 17 Tryz.func44 #[.pointer (some ⟨g, 0, none⟩), .int .i64 2] ?_; (with_reducible refine (spec_l1Below.calls g s0_0 t310 t311 2 t315 t316 t317 w0 _ ?side1 ?side2 A10.out).mono ?_); (case side1 => repeat (first | (with_reducible first | exact HI0.out | apply IsS62.alloc | apply IsS62.drewN | apply IsS62.drew | apply IsS62.set_1 | apply IsS62.set_2) | exact HI0.out)); (case side2 => repeat (first | (with_reducible first | exact HB.out | apply below_alloc | apply pw_below_drewN | apply below_drew1 | refine below_set ?_ (IsS62.ge HI0.out)) | exact HB.out)); rintro e w15 ⟨rfl, hi, hb, hk⟩; refine ⟨_, rfl, ?_⟩; replace HK := Aside0.mk (KeepBut.trans z1 hk (.inl rfl)); replace HB := Aside0.mk (hb); replace HI0 := Aside0.mk (hi); (try clear hb); (try clear hk); (try clear hi)) | ((with_reducible refine gate_callee (f := 48) rfl ?_); refine goesQ_ 19 Tryz.func48 #[.pointer (some ⟨g, 0, none⟩), .int .i64 (wrap64 (191 + t315)), .string (⟨#[116]⟩ : ByteArray)] ?_; (with_reducible refine (spec_l1of.calls k g s0_0 t316 t317 (wrap64 (191 + t315)) (⟨#[116]⟩ : ByteArray) t318 t319 t320 w0 _ ?side1 ?side2 A11.out).mono ?_); (case side1 => repeat (first | (with_reducible first | exact HI0.out | apply IsS62.alloc | apply IsS62.drewN | apply IsS62.drew | apply IsS62.set_1 | apply IsS62.set_2) | exact HI0.out)); (case side2 => repeat (first | (with_reducible first | exact HB.out | apply below_alloc | apply pw_below_drewN | apply below_drew1 | refine below_set ?_ (IsS62.ge HI0.out)) | exact HB.out)); rintro e w16 ⟨rfl, hi, hb, hk⟩; refine ⟨_, rfl, ?_⟩; replace HK := Aside0.mk (KeepBut.trans z1 hk (.inl rfl)); replace HB := Aside0.mk (hb); replace HI0 := Aside0.mk (hi); (try clear hb); (try clear hk); (try clear hi)))
    go_ret
    exact ⟨z4, z2, z6, z1⟩
   ·rw [if_neg c12] at H
    exact absurd H (by simp)
  ·rw [if_neg c9] at H
   have c9b0 : (t309 == 1) = false := beq_eq_false_iff_ne.mpr c9
   have c9b1 : (t309 != 1) = true := bne_iff_ne.mpr c9
   by_cases c17 : t309 = 2
   ·rw [if_pos c17] at H
    have c17b0 : (t309 == 2) = true := beq_iff_eq.mpr c17
    have c17b1 : (t309 != 2) = false := bne_eq_false_iff_eq.mpr c17
    clear c17
    obtain ⟨y321, hy321⟩ : ∃ y_ : List ByteArray, y_ = (([(⟨#[104, 116, 116, 112, 58, 47, 47]⟩ : ByteArray), (⟨#[104, 116, 116, 112, 58, 47, 47, 47]⟩ : ByteArray), (⟨#[104, 116, 116, 112, 58, 47, 47, 97, 58]⟩ : ByteArray), (⟨#[104, 116, 116, 112, 58, 47, 47, 97, 58, 48]⟩ : ByteArray), (⟨#[104, 116, 116, 112, 58, 47, 47, 97, 58, 54, 53, 53, 51, 54]⟩ : ByteArray), (⟨#[104, 116, 116, 112, 58, 47, 47, 97, 46, 46, 98, 47]⟩ : ByteArray), (⟨#[104, 116, 116, 112, 58, 47, 47, 97, 47, 35]⟩ : ByteArray), (⟨#[104, 116, 116, 112, 58, 47, 47, 46, 97]⟩ : ByteArray), (⟨#[104, 116, 116, 112, 58, 47, 47, 97, 63, 98, 35]⟩ : ByteArray)] : List ByteArray)) := ⟨_, rfl⟩
    replace H : ((spec_l1Below.f s0_0 t310 t311 9).bind fun bt324 => (if 0 ≤ bt324.1 then (if bt324.1 < (y321.length : Int) then (some (rdOf ByteArray.empty y321 bt324.1, bt324.2.1, bt324.2.2)) else (none)) else (none))) = some (r1, r2, r3) := by first | (rw [hy321]; with_reducible exact H) | (have H2_ := (Option.bind_some _ _).symm.trans H; rw [hy321]; with_reducible exact H2_) | (have H2_ := (Option.bind_some _ _).symm.trans H; with_reducible exact H2_) | with_reducible exact H | (rw [hy321]; exact H) | exact H
    have Ny321 := Aside0.mk hy321
    clear hy321
    replace H := Option.bind_eq_some_iff.mp H
    obtain ⟨⟨t324, t325, t326⟩, A180, H⟩ := H
    try dsimp only at H
    have A18 := Aside0.mk A180
    clear A180
    by_cases c19 : 0 ≤ t324
    ·rw [if_pos c19] at H
     have c19b0 : decide (0 ≤ t324) = true := decide_eq_true c19
     clear c19
     by_cases c20 : t324 < (y321.length : Int)
     ·rw [if_pos c20] at H
      have c20b0 : decide (t324 < (y321.length : Int)) = true := decide_eq_true c20
      clear c20
      simp only [Option.some.injEq, Prod.mk.injEq] at H
      obtain ⟨rfl, rfl, rfl⟩ := H
      go_enter Tryz.func39, Tryz.ntmps39
      go_wp2_with (first | ((with_reducible refine gate_callee (f := 42) rfl ?_); refine goesQ_ 5 Tryz.func42 #[.pointer (some ⟨g, 0, none⟩)] ?_; (with_reducible refine (spec_l7url.calls k g s0_0 s0_1 s0_2 t306 t307 t308 w0 _ ?side1 ?side2 A2.out).mono ?_); (case side1 => repeat (first | (with_reducible first | exact HI0.out | apply IsS62.alloc | apply IsS62.drewN | apply IsS62.drew | apply IsS62.set_1 | apply IsS62.set_2) | exact HI0.out)); (case side2 => repeat (first | (with_reducible first | exact HB.out | apply below_alloc | apply pw_below_drewN | apply below_drew1 | refine below_set ?_ (IsS62.ge HI0.out)) | exact HB.out)); rintro e w21 ⟨rfl, hi, hb, hk⟩; refine ⟨_, rfl, ?_⟩; replace HK := Aside0.mk (KeepBut.trans z1 hk (.inl rfl)); replace HB := Aside0.mk (hb); replace HI0 := Aside0.mk (hi); (try clear hb); (try clear hk); (try clear hi)) | ((with_reducible refine gate_callee (f := 44) rfl ?_); refine goesQ_ 7 Tryz.func44 #[.pointer (some ⟨g, 0, none⟩), .int .i64 9] ?_; (with_reducible refine (spec_l1Below.calls g s0_0 t307 t308 9 t309 t310 t311 w0 _ ?side1 ?side2 A3.out).mono ?_); (case side1 => repeat (first | (with_reducible first | exact HI0.out | apply IsS62.alloc | apply IsS62.drewN | apply IsS62.drew | apply IsS62.set_1 | apply IsS62.set_2) | exact HI0.out)); (case side2 => repeat (first | (with_reducible first | exact HB.out | apply below_alloc | apply pw_below_drewN | apply below_drew1 | refine below_set ?_ (IsS62.ge HI0.out)) | exact HB.out)); rintro e w22 ⟨rfl, hi, hb, hk⟩; refine ⟨_, rfl, ?_⟩; replace HK := Aside0.mk (KeepBut.trans z1 hk (.inl rfl)); replace HB := Aside0.mk (hb); replace HI0 := Aside0.mk (hi); (try clear hb); (try clear hk); (try clear hi)) | ((with_reducible refine gate_dst (N := 23) rfl ?_); refine Kd.R_lit Kd.string _ 9 ?hg (N := 23) ?hd (xs := ([(⟨#[104, 116, 116, 112, 58, 47, 47]⟩ : ByteArray), (⟨#[104, 116, 116, 112, 58, 47, 47, 47]⟩ : ByteArray), (⟨#[104, 116, 116, 112, 58, 47, 47, 97, 58]⟩ : ByteArray), (⟨#[104, 116, 116, 112, 58, 47, 47, 97, 58, 48]⟩ : ByteArray), (⟨#[104, 116, 116, 112, 58, 47, 47, 97, 58, 54, 53, 53, 51, 54]⟩ : ByteArray), (⟨#[104, 116, 116, 112, 58, 47, 47, 97, 46, 46, 98, 47]⟩ : ByteArray), (⟨#[104, 116, 116, 112, 58, 47, 47, 97, 47, 35]⟩ : ByteArray), (⟨#[104, 116, 116, 112, 58, 47, 47, 46, 97]⟩ : ByteArray), (⟨#[104, 116, 116, 112, 58, 47, 47, 97, 63, 98, 35]⟩ : ByteArray)] : List ByteArray)) (inner := [.string (⟨#[104, 116, 116, 112, 58, 47, 47]⟩ : ByteArray), .string (⟨#[104, 116, 116, 112, 58, 47, 47, 47]⟩ : ByteArray), .string (⟨#[104, 116, 116, 112, 58, 47, 47, 97, 58]⟩ : ByteArray), .string (⟨#[104, 116, 116, 112, 58, 47, 47, 97, 58, 48]⟩ : ByteArray), .string (⟨#[104, 116, 116, 112, 58, 47, 47, 97, 58, 54, 53, 53, 51, 54]⟩ : ByteArray), .string (⟨#[104, 116, 116, 112, 58, 47, 47, 97, 46, 46, 98, 47]⟩ : ByteArray), .string (⟨#[104, 116, 116, 112, 58, 47, 47, 97, 47, 35]⟩ : ByteArray), .string (⟨#[104, 116, 116, 112, 58, 47, 47, 46, 97]⟩ : ByteArray), .string (⟨#[104, 116, 116, 112, 58, 47, 47, 97, 63, 98, 35]⟩ : ByteArray)]) (ok := fun _ => True) (okp := fun _ => True) ?hr ?hp (fun _ hk => hk) trivial (Below.refl _ _) (Nat.le_refl _) (by simp) ?_; (case hd => rfl); (case hg => rfl); (case hr => first | (go_simp; done) | (go_simp; rfl)); (case hp => exact (Reps.one (show Kd.M Kd.string _ _ _ (⟨#[104, 116, 116, 112, 58, 47, 47]⟩ : ByteArray) [.string (⟨#[104, 116, 116, 112, 58, 47, 47]⟩ : ByteArray)] from rfl) (Reps.one (show Kd.M Kd.string _ _ _ (⟨#[104, 116, 116, 112, 58, 47, 47, 47]⟩ : ByteArray) [.string (⟨#[104, 116, 116, 112, 58, 47, 47, 47]⟩ : ByteArray)] from rfl) (Reps.one (show Kd.M Kd.string _ _ _ (⟨#[104, 116, 116, 112, 58, 47, 47, 97, 58]⟩ : ByteArray) [.string (⟨#[104, 116, 116, 112, 58, 47, 47, 97, 58]⟩ : ByteArray)] from rfl) (Reps.one (show Kd.M Kd.string _ _ _ (⟨#[104, 116, 116, 112, 58, 47, 47, 97, 58, 48]⟩ : ByteArray) [.string (⟨#[104, 116, 116, 112, 58, 47, 47, 97, 58, 48]⟩ : ByteArray)] from rfl) (Reps.one (show Kd.M Kd.string _ _ _ (⟨#[104, 116, 116, 112, 58, 47, 47, 97, 58, 54, 53, 53, 51, 54]⟩ : ByteArray) [.string (⟨#[104, 116, 116, 112, 58, 47, 47, 97, 58, 54, 53, 53, 51, 54]⟩ : ByteArray)] from rfl) (Reps.one (show Kd.M Kd.string _ _ _ (⟨#[104, 116, 116, 112, 58, 47, 47, 97, 46, 46, 98, 47]⟩ : ByteArray) [.string (⟨#[104, 116, 116, 112, 58, 47, 47, 97, 46, 46, 98, 47]⟩ : ByteArray)] from rfl) (Reps.one (show Kd.M Kd.string _ _ _ (⟨#[104, 116, 116, 112, 58, 47, 47, 97, 47, 35]⟩ : ByteArray) [.string (⟨#[104, 116, 116, 112, 58, 47, 47, 97, 47, 35]⟩ : ByteArray)] from rfl) (Reps.one (show Kd.M Kd.string _ _ _ (⟨#[104, 116, 116, 112, 58, 47, 47, 46, 97]⟩ : ByteArray) [.string (⟨#[104, 116, 116, 112, 58, 47, 47, 46, 97]⟩ : ByteArray)] from rfl) (Reps.one (show Kd.M Kd.string _ _ _ (⟨#[104, 116, 116, 112, 58, 47, 47, 97, 63, 98, 35]⟩ : ByteArray) [.string (⟨#[104, 116, 116, 112, 58, 47, 47, 97, 63, 98, 35]⟩ : ByteArray)] from rfl) (Reps.none _ _))))))))))); intro v322 w23 ho24 hb hg_ hnew_; clear hg_ hnew_; (first | rw [← Ny321.out] at ho24 | (simp only [Int.reduceToNat] at ho24; rw [← Ny321.out] at ho24)); have HO323 := Aside0.mk (Kd.R_lower ho24 (keep_size (w := w) (g := g) (row := none) z1)); replace HK := Aside0.mk (KeepBut.trans z1 (KeepBut.of_below hb g none) (.inl rfl)); replace HB := Aside0.mk (below_step z6 hb); replace HI0 := Aside0.mk (IsS62.below z2 hb); clear hb ho24) | ((with_reducible refine gate_callee (f := 44) rfl ?_); refine goesQ_ 25 Tryz.func44 #[.pointer (some ⟨g, 0, none⟩), .int .i64 9] ?_; (with_reducible refine (spec_l1Below.calls g s0_0 t310 t311 9 t324 t325 t326 w0 _ ?side1 ?side2 A18.out).mono ?_); (case side1 => repeat (first | (with_reducible first | exact HI0.out | apply IsS62.alloc | apply IsS62.drewN | apply IsS62.drew | apply IsS62.set_1 | apply IsS62.set_2) | exact HI0.out)); (case side2 => repeat (first | (with_reducible first | exact HB.out | apply below_alloc | apply pw_below_drewN | apply below_drew1 | refine below_set ?_ (IsS62.ge HI0.out)) | exact HB.out)); rintro e w25 ⟨rfl, hi, hb, hk⟩; refine ⟨_, rfl, ?_⟩; replace HO323 := Aside0.mk (Kd.R_mono (Kd.R_keep (IsS62.apart (show IsS62 w0 _ g s0_0 t310 t311 from z2) (by (with_reducible repeat (first | apply Kd.R_alloc | apply Kd.R_drewN | apply Kd.R_drew)); exact HO323.out) (by decide)) hk (fun _ h => h.2)) (fun _ h => h.1)); replace HK := Aside0.mk (KeepBut.trans z1 hk (.inl rfl)); replace HB := Aside0.mk (hb); replace HI0 := Aside0.mk (hi); (try clear hb); (try clear hk); (try clear hi); obtain ⟨Ao26, co26, eo26⟩ := Kd.R_slice HO323.out; subst eo26; have p327 : 0 ≤ (t324 : Int) := of_decide_eq_true z3; have q327 : t324 < (y321.length : Int) := of_decide_eq_true z3; obtain ⟨ad327, e327, hx327_0⟩ := Kd.at_string (Kd.R_reads' HO323.out).2.2 t324 p327 q327; cases e327; replace p327 := eq_true p327; replace q327 := eq_true q327))
      go_ret
      exact ⟨z4, z2, z6, z1⟩
     ·rw [if_neg c20] at H
      exact absurd H (by simp)
    ·rw [if_neg c19] at H
     exact absurd H (by simp)
   ·rw [if_neg c17] at H
    have c17b0 : (t309 == 2) = false := beq_eq_false_iff_ne.mpr c17
    have c17b1 : (t309 != 2) = true := bne_iff_ne.mpr c17
    simp only [Option.some.injEq, Prod.mk.injEq] at H
    obtain ⟨rfl, rfl, rfl⟩ := H
    go_enter Tryz.func39, Tryz.ntmps39
    go_wp2_with (first | ((with_reducible refine gate_callee (f := 42) rfl ?_); refine goesQ_ 5 Tryz.func42 #[.pointer (some ⟨g, 0, none⟩)] ?_; (with_reducible refine (spec_l7url.calls k g s0_0 s0_1 s0_2 t306 t307 t308 w0 _ ?side1 ?side2 A2.out).mono ?_); (case side1 => repeat (first | (with_reducible first | exact HI0.out | apply IsS62.alloc | apply IsS62.drewN | apply IsS62.drew | apply IsS62.set_1 | apply IsS62.set_2) | exact HI0.out)); (case side2 => repeat (first | (with_reducible first | exact HB.out | apply below_alloc | apply pw_below_drewN | apply below_drew1 | refine below_set ?_ (IsS62.ge HI0.out)) | exact HB.out)); rintro e w27 ⟨rfl, hi, hb, hk⟩; refine ⟨_, rfl, ?_⟩; replace HK := Aside0.mk (KeepBut.trans z1 hk (.inl rfl)); replace HB := Aside0.mk (hb); replace HI0 := Aside0.mk (hi); (try clear hb); (try clear hk); (try clear hi)) | ((with_reducible refine gate_callee (f := 44) rfl ?_); refine goesQ_ 7 Tryz.func44 #[.pointer (some ⟨g, 0, none⟩), .int .i64 9] ?_; (with_reducible refine (spec_l1Below.calls g s0_0 t307 t308 9 t309 t310 t311 w0 _ ?side1 ?side2 A3.out).mono ?_); (case side1 => repeat (first | (with_reducible first | exact HI0.out | apply IsS62.alloc | apply IsS62.drewN | apply IsS62.drew | apply IsS62.set_1 | apply IsS62.set_2) | exact HI0.out)); (case side2 => repeat (first | (with_reducible first | exact HB.out | apply below_alloc | apply pw_below_drewN | apply below_drew1 | refine below_set ?_ (IsS62.ge HI0.out)) | exact HB.out)); rintro e w28 ⟨rfl, hi, hb, hk⟩; refine ⟨_, rfl, ?_⟩; replace HK := Aside0.mk (KeepBut.trans z1 hk (.inl rfl)); replace HB := Aside0.mk (hb); replace HI0 := Aside0.mk (hi); (try clear hb); (try clear hk); (try clear hi)))
    go_ret
    exact ⟨z4, z2, z6, z1⟩

/-! ### spec_DrawCanon: function 12 -/
def spec_DrawCanon.f (k : Nat) (l0 : List Int) : Option (ByteArray) := (spec_l1New.f k l0).bind fun bt328 => ((spec_l7urlBent.f k bt328.1 bt328.2.1 bt328.2.2).bind fun bt332 => (some bt332.1))
theorem spec_DrawCanon.mono : ∀ a0 k, LeO (spec_DrawCanon.f k a0) (spec_DrawCanon.f (k + 1) a0) := by
 intro a0 k
 unfold spec_DrawCanon.f
 repeat' first | (with_reducible first | exact spec_l1New.mono _ _ | exact spec_l7urlBent.mono _ _ _ _ | exact LeO.refl _ | exact LeO.none _ | refine LeO.ite ?_ ?_ | refine LeO.bind ?_ (fun _ => ?_)) | exact spec_l1New.mono _ _ | exact spec_l7urlBent.mono _ _ _ _ | exact LeO.none _ | refine LeO.ite ?_ ?_ | refine LeO.bind ?_ (fun _ => ?_)
set_option maxHeartbeats 8000000 in
set_option maxRecDepth 100000 in
theorem spec_DrawCanon.calls (k : Nat) (A0 : Option Addr) (c0 : Nat) (l0 : List Int) (r : ByteArray) (w : World) (hr0 : Kd.C (Kd.int .u8) w A0 l0.length l0) (hc0 : l0.length ≤ c0) (h : spec_DrawCanon.f k l0 = some r) :
  Calls Tryz.prog 12 #[.slice A0 l0.length c0] w fun e w' => e = .returned (.string r) ∧ Below w.heap.size w w' := by
 have HR0 := Aside0.mk hr0
 have HC0 := Aside0.mk hc0
 clear hr0 hc0
 have HB := Aside0.mk (Below.refl w.heap.size w)
 have H : ((spec_l1New.f k l0).bind fun bt328 => ((spec_l7urlBent.f k bt328.1 bt328.2.1 bt328.2.2).bind fun bt332 => (some bt332.1))) = some r := h
 clear h
 replace H := Option.bind_eq_some_iff.mp H
 obtain ⟨⟨t328, t329, t330⟩, A20, H⟩ := H
 try dsimp only at H
 have A2 := Aside0.mk A20
 clear A20
 replace H := Option.bind_eq_some_iff.mp H
 obtain ⟨⟨t332, t333, t334⟩, A30, H⟩ := H
 try dsimp only at H
 have A3 := Aside0.mk A30
 clear A30
 obtain rfl := Option.some.inj H
 go_enter Tryz.func12, Tryz.ntmps12
 go_wp2_with (first | ((with_reducible refine gate_callee (f := 17) rfl ?_); refine goesQ_ 4 Tryz.func17 #[.slice A0 l0.length c0] ?_; (with_reducible refine (spec_l1New.calls k _ _ l0 t328 t329 t330 w _ ?side1 ?side2 ?side3 A2.out).mono ?_); (case side1 => repeat (first | (with_reducible first | exact HB.out | apply below_alloc | apply pw_below_drewN | apply below_drew1) | exact HB.out)); (case side2 => exact HR0.out); (case side3 => exact HC0.out); rintro e w4 ⟨g331, rfl, hi, hb, hb2⟩; refine ⟨_, rfl, ?_⟩; replace HB := Aside0.mk (hb); have HI331 := Aside0.mk (hi); (try clear hb); (try clear hb2); (try clear hi)) | ((with_reducible refine gate_callee (f := 39) rfl ?_); refine goesQ_ 5 Tryz.func39 #[.pointer (some ⟨g331, 0, none⟩)] ?_; (with_reducible refine (spec_l7urlBent.calls k g331 t328 t329 t330 t332 t333 t334 w _ ?side1 ?side2 A3.out).mono ?_); (case side1 => repeat (first | (with_reducible first | exact HI331.out | apply IsS62.alloc | apply IsS62.drewN | apply IsS62.drew | apply IsS62.set_1 | apply IsS62.set_2) | exact HI331.out)); (case side2 => repeat (first | (with_reducible first | exact HB.out | apply below_alloc | apply pw_below_drewN | apply below_drew1 | refine below_set ?_ (IsS62.ge HI331.out)) | exact HB.out)); rintro e w5 ⟨rfl, hi, hb, hk⟩; refine ⟨_, rfl, ?_⟩; replace HB := Aside0.mk (hb); replace HI331 := Aside0.mk (hi); (try clear hb); (try clear hk); (try clear hi)))
 go_ret
 exact ⟨z4, by repeat (first | (with_reducible first | exact HB.out | apply below_alloc | apply pw_below_drewN | apply below_drew1 | refine below_set ?_ (IsS62.ge HI331.out)) | exact HB.out)⟩

end Go.Proofs.YtkkolioolgpljaaGreatDoor.GFnCanons
