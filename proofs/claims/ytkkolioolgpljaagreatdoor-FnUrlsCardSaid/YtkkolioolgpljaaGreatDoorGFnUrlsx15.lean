-- Laid by gen.py of this session (over the kit's printing program): what the law FnUrls reaches, as Lean functions, and that Go comes to just that.
import Derived.Test.YtkkolioolgpljaaGreatDoorGFnUrlsx0
import Derived.Test.YtkkolioolgpljaaGreatDoorGFnUrlsx14
import Derived.Test.YtkkolioolgpljaaGreatDoorZFnUrls
namespace Go.Proofs.YtkkolioolgpljaaGreatDoor.GFnUrls
open Go.RowKit Go.Proofs.YtkkolioolgpljaaGreatDoorW.PrintWords Go.Proofs.YtkkolioolgpljaaGreatDoorW.PrintLast Go.Proofs.YtkkolioolgpljaaGreatDoorW.PrintMore Go.Proofs.YtkkolioolgpljaaGreatDoorW.Zs
attribute [local go_sem] max2_int min2_int max_two min_two max_three min_three max_four min_four   -- for this text's walks alone
set_option linter.unusedVariables false
set_option linter.unusedSimpArgs false

/-! ### impl_urlText: function 24 -/
def impl_urlText.f (a0_0 : ByteArray) (a0_1 : Int) (a0_2 : ByteArray) (a0_3 : ByteArray) (a0_4 : Bool) : Option (ByteArray) := if 7 + a0_0.size ≤ 9223372036854775807 then ((impl_portText.f a0_0 a0_1 a0_2 a0_3 a0_4).bind fun t331 => (if ((⟨#[104, 116, 116, 112, 58, 47, 47]⟩ : ByteArray) ++ a0_0).size + t331.size ≤ 9223372036854775807 then ((impl_pathText.f a0_0 a0_1 a0_2 a0_3 a0_4).bind fun t332 => (if (((⟨#[104, 116, 116, 112, 58, 47, 47]⟩ : ByteArray) ++ a0_0) ++ t331).size + t332.size ≤ 9223372036854775807 then (some ((((⟨#[104, 116, 116, 112, 58, 47, 47]⟩ : ByteArray) ++ a0_0) ++ t331) ++ t332)) else (none))) else (none))) else (none)
def impl_urlText.T1 : Bool × List (List Nat × List Nat) := (true, [([], []), ([0], [0]), ([1], [1]), ([], []), ([3], [3]), ([2, 4], [2, 4]), ([], []), ([6, 4], [6]), ([5, 7], [5, 7]), ([8, 7, 0, 1, 2, 3, 4, 5, 6, 7, 8], [8])])
def impl_urlText.B1 : List Nat := [0, 1, 3, 0, 8, 31, 0, 88, 255, 511]
theorem impl_urlText.tab1 : rtab .any (opsOf Tryz.f24 1) = impl_urlText.T1 := by kernel_rfl
theorem impl_urlText.bits1 : waitsOk impl_urlText.T1.2 impl_urlText.B1 = true := by kernel_rfl
set_option maxHeartbeats 8000000 in
set_option maxRecDepth 100000 in
theorem impl_urlText.calls (a0_0 : ByteArray) (a0_1 : Int) (a0_2 : ByteArray) (a0_3 : ByteArray) (a0_4 : Bool) (r : ByteArray) (w : World) (hG : Gl w) (h : impl_urlText.f a0_0 a0_1 a0_2 a0_3 a0_4 = some r) :
  Calls Tryz.prog 24 #[.agg #[.string a0_0, .int .i64 a0_1, .string a0_2, .string a0_3, .bool a0_4]] w fun e w' => e = .returned (.string r) ∧ Below w.heap.size w w' := by
 have hu24 := Tryz.underlying24; have HG := Aside0.mk hG; clear hG; have HB := Aside0.mk (Below.refl w.heap.size w); have H : (if 7 + a0_0.size ≤ 9223372036854775807 then ((impl_portText.f a0_0 a0_1 a0_2 a0_3 a0_4).bind fun t331 => (if ((⟨#[104, 116, 116, 112, 58, 47, 47]⟩ : ByteArray) ++ a0_0).size + t331.size ≤ 9223372036854775807 then ((impl_pathText.f a0_0 a0_1 a0_2 a0_3 a0_4).bind fun t332 => (if (((⟨#[104, 116, 116, 112, 58, 47, 47]⟩ : ByteArray) ++ a0_0) ++ t331).size + t332.size ≤ 9223372036854775807 then (some ((((⟨#[104, 116, 116, 112, 58, 47, 47]⟩ : ByteArray) ++ a0_0) ++ t331) ++ t332)) else (none))) else (none))) else (none)) = some r := h; clear h
 by_cases c2 : 7 + a0_0.size ≤ 9223372036854775807
 ·rw [if_pos c2] at H; have c2b0 := eq_true c2; have c2b1 : decide (7 + a0_0.size ≤ 9223372036854775807) = true := decide_eq_true c2; (try have c2b2 : (9223372036854775807 < 7 + a0_0.size) = False := eq_false (Nat.not_lt.2 c2)); replace H := Option.bind_eq_some_iff.mp H; obtain ⟨t331, A30, H⟩ := H; (try dsimp only at H); have A3 := Aside0.mk A30; clear A30
  by_cases c4 : ((⟨#[104, 116, 116, 112, 58, 47, 47]⟩ : ByteArray) ++ a0_0).size + t331.size ≤ 9223372036854775807
  ·rw [if_pos c4] at H; have c4b0 := eq_true c4; have c4b1 : decide (((⟨#[104, 116, 116, 112, 58, 47, 47]⟩ : ByteArray) ++ a0_0).size + t331.size ≤ 9223372036854775807) = true := decide_eq_true c4; (try have c4b2 : (9223372036854775807 < ((⟨#[104, 116, 116, 112, 58, 47, 47]⟩ : ByteArray) ++ a0_0).size + t331.size) = False := eq_false (Nat.not_lt.2 c4)); (try have c4z := c4b2; simp only [ByteArray.size_append, show (⟨#[104, 116, 116, 112, 58, 47, 47]⟩ : ByteArray).size = 7 from rfl] at c4z; have c4b3 := c4z); replace H := Option.bind_eq_some_iff.mp H; obtain ⟨t332, A50, H⟩ := H; (try dsimp only at H); have A5 := Aside0.mk A50; clear A50
   by_cases c6 : (((⟨#[104, 116, 116, 112, 58, 47, 47]⟩ : ByteArray) ++ a0_0) ++ t331).size + t332.size ≤ 9223372036854775807
   ·rw [if_pos c6] at H; have c6b0 := eq_true c6; have c6b1 : decide ((((⟨#[104, 116, 116, 112, 58, 47, 47]⟩ : ByteArray) ++ a0_0) ++ t331).size + t332.size ≤ 9223372036854775807) = true := decide_eq_true c6; (try have c6b2 : (9223372036854775807 < (((⟨#[104, 116, 116, 112, 58, 47, 47]⟩ : ByteArray) ++ a0_0) ++ t331).size + t332.size) = False := eq_false (Nat.not_lt.2 c6)); (try have c6z := c6b2; simp only [ByteArray.size_append, show (⟨#[104, 116, 116, 112, 58, 47, 47]⟩ : ByteArray).size = 7 from rfl] at c6z; have c6b3 := c6z); obtain rfl := Option.some.inj H; go_enter Tryz.func24, Tryz.ntmps24
    (try go_wp2_with (first | ((with_reducible refine gate_dst (N := 1) rfl ?_); refine boxP_ (N := 1) (cs := #[.string a0_0, .int .i64 a0_1, .string a0_2, .string a0_3, .bool a0_4]) (t := 24) ?_; intro gb330 hg w7 hbox hb; have BK330 := Aside0.mk (hbox); have GE330 := geb_ (w := w) hg z0; replace HB := Aside0.mk (below_step z0 hb); clear hb hbox hg))); have n0_ := Aside0.mk (blk_drew BK330.out); have n1_ := Aside0.mk (below_drew1 HB.out); clear BK330; clear HB; have BK330 := n0_; have HB := n1_; clear n0_ n1_; refine st_ (n := 10) (S := fun w' => w'.cell? ⟨gb330, 0, none⟩ = some (.string a0_0) ∧ w'.cell? ⟨gb330, 1, none⟩ = some (.int .i64 a0_1) ∧ w'.cell? ⟨gb330, 2, none⟩ = some (.string a0_2) ∧ w'.cell? ⟨gb330, 3, none⟩ = some (.string a0_3) ∧ w'.cell? ⟨gb330, 4, none⟩ = some (.bool a0_4)) (ds := []) ⟨(blk_cell BK330.out 0).trans rfl, (blk_cell BK330.out 1).trans rfl, (blk_cell BK330.out 2).trans rfl, (blk_cell BK330.out 3).trans rfl, (blk_cell BK330.out 4).trans rfl⟩ (fun hHeld => ?_); refine with_tabW impl_urlText.tab1 impl_urlText.bits1 (fun HT_ HW_ => ?_); generalize w7.drew = w8 at BK330 HB hHeld ⊢; refine pz 0 3 ?_; refine tk0_ 1 4 hHeld ?_; refine pz 2 5 ?_; refine tk0_ 3 6 hHeld ?_; refine tk0_ 6 9 hHeld ?_; refine oz 4 7 (fun K hK => ?_); refine goes_ Tryz.func28 (by kernel_rfl) rfl #[.agg #[.string a0_0, .int .i64 a0_1, .string a0_2, .string a0_3, .bool a0_4]] (by rfl) rfl rfl z29 ?_; (with_reducible refine (impl_portText.calls a0_0 a0_1 a0_2 a0_3 a0_4 t331 _ ?side1 A3.out).mono ?_); (case side1 => exact Gl.below HG.out z61); rintro e w9 ⟨rfl, hb⟩; refine ⟨_, rfl, ?_⟩; have n0_ := Aside0.mk (blk_below (by (with_reducible repeat (first | refine blk_drewN ?_ _ | refine blk_drew ?_ | refine blk_alloc ?_ _)); exact BK330.out) hb); have n1_ := Aside0.mk (below_step z61 hb); clear BK330; clear HB; have BK330 := n0_; have HB := n1_; clear n0_ n1_; (try clear hb); (try clear hb2); (try clear hk); (try clear hi); refine hK.out _ _ ⟨(blk_cell BK330.out 0).trans rfl, (blk_cell BK330.out 1).trans rfl, (blk_cell BK330.out 2).trans rfl, (blk_cell BK330.out 3).trans rfl, (blk_cell BK330.out 4).trans rfl⟩ (fun hHeld => ?_); clear hK K; refine nz ?_; refine pz 5 8 ?_; refine oz 7 10 (fun K hK => ?_); refine goZ Tryz.func29 #[.agg #[.string a0_0, .int .i64 a0_1, .string a0_2, .string a0_3, .bool a0_4]] (impl_pathText.calls a0_0 a0_1 a0_2 a0_3 a0_4 t332 _ A5.out) ?_; rintro w10 hb; have n0_ := Aside0.mk (blk_below (by (with_reducible repeat (first | refine blk_drewN ?_ _ | refine blk_drew ?_ | refine blk_alloc ?_ _)); exact BK330.out) hb); have n1_ := Aside0.mk (below_step z61 hb); clear BK330; clear HB; have BK330 := n0_; have HB := n1_; clear n0_ n1_; (try clear hb); (try clear hb2); (try clear hk); (try clear hi); refine hK.out _ _ ⟨(blk_cell BK330.out 0).trans rfl, (blk_cell BK330.out 1).trans rfl, (blk_cell BK330.out 2).trans rfl, (blk_cell BK330.out 3).trans rfl, (blk_cell BK330.out 4).trans rfl⟩ (fun hHeld => ?_); clear hK K; refine nz ?_; refine pz 8 11 ?_; refine pz 9 2 ?_; refine done_ (done_of HT_.out (by kernel_rfl)) ?_; (try go_wp2); go_ret; exact ⟨z2, z61⟩
   ·rw [if_neg c6] at H; exact absurd H (by simp)
  ·rw [if_neg c4] at H; exact absurd H (by simp)
 ·rw [if_neg c2] at H; exact absurd H (by simp)

-- NOT PRINTED: function 30 (impl_all)

/-! ### impl_isVisible: function 31 -/
def impl_isVisible.f (a0 : Int) : Option (Bool) := if a0 ≥ 33 then (some (decide (a0 ≤ 126))) else (some false)
set_option maxHeartbeats 8000000 in
set_option maxRecDepth 100000 in
theorem impl_isVisible.calls (a0 : Int) (r : Bool) (w : World) (h : impl_isVisible.f a0 = some r) :
  Calls Tryz.prog 31 #[.int .u8 a0] w fun e w' => e = .returned (.bool r) ∧ Drawn0 w w' := by
 have H : (if a0 ≥ 33 then (some (decide (a0 ≤ 126))) else (some false)) = some r := h; clear h
 by_cases c2 : a0 ≥ 33
 ·rw [if_pos c2] at H; have c2b0 : decide (33 ≤ a0) = true := decide_eq_true c2; clear c2; obtain rfl := Option.some.inj H; go_enter Tryz.func31, Tryz.ntmps31
  go_wp2
  go_ret; exact ⟨z5, z13⟩
 ·rw [if_neg c2] at H; have c2b0 : decide (33 ≤ a0) = false := decide_eq_false c2; clear c2; obtain rfl := Option.some.inj H; go_enter Tryz.func31, Tryz.ntmps31
  go_wp2
  go_ret; exact ⟨z5, z13⟩

/-! ### strings_Index: function 62 -/
def strings_Index.f (a0 : ByteArray) (a1 : ByteArray) : Option (Int) := if a0.size < 4294967281 then some (Lib.index a0.data.toList a1.data.toList) else none
theorem strings_Index.calls (a0 : ByteArray) (a1 : ByteArray) (r : Int) (w : World) (hG : Gl w) (h : strings_Index.f a0 a1 = some r) :
  Calls Tryz.prog 62 #[.string a0, .string a1] w fun e w' => e = .returned (.int .i64 r) ∧ Below w.heap.size w w' := by
 unfold strings_Index.f at h
 by_cases hs : a0.size < 4294967281
 ·rw [if_pos hs] at h; obtain rfl := Option.some.inj h; obtain ⟨m, hm⟩ := hG.maxLen; refine (Tryz.strings_Index a0 a1 m w hs hm).mono ?_; rintro e w' ⟨he, hw⟩; subst hw; exact ⟨he, Below.refl _ _⟩
 ·rw [if_neg hs] at h; cases h


/-! ### strings_Contains: function 32 -/
def strings_Contains.f (a0 : ByteArray) (a1 : ByteArray) : Option (Bool) := (strings_Index.f a0 a1).bind fun t333 => (some (decide (t333 ≥ 0)))
set_option maxHeartbeats 8000000 in
set_option maxRecDepth 100000 in
theorem strings_Contains.calls (a0 : ByteArray) (a1 : ByteArray) (r : Bool) (w : World) (hG : Gl w) (h : strings_Contains.f a0 a1 = some r) :
  Calls Tryz.prog 32 #[.string a0, .string a1] w fun e w' => e = .returned (.bool r) ∧ Below w.heap.size w w' := by
 have HG := Aside0.mk hG; clear hG; have HB := Aside0.mk (Below.refl w.heap.size w); have H : ((strings_Index.f a0 a1).bind fun t333 => (some (decide (t333 ≥ 0)))) = some r := h; clear h; replace H := Option.bind_eq_some_iff.mp H; obtain ⟨t333, A30, H⟩ := H; (try dsimp only at H); have A3 := Aside0.mk A30; clear A30; obtain rfl := Option.some.inj H; go_enter Tryz.func32, Tryz.ntmps32
 go_wp2_with (first | ((with_reducible refine gate_callee (f := 62) rfl ?_); refine goesQ_ 7 Tryz.func62 #[.string a0, .string a1] ?_; (with_reducible refine (strings_Index.calls a0 a1 t333 _ ?side1 A3.out).mono ?_); (case side1 => exact Gl.below HG.out z0); rintro e w4 ⟨rfl, hb⟩; refine ⟨_, rfl, ?_⟩; replace HB := Aside0.mk (below_step z0 hb); (try clear hb)))
 go_ret; exact ⟨z2, z0⟩

/-! ### strings_Join: function 25 -/
def strings_Join.f (l0 : List ByteArray) (a1 : ByteArray) : Option (ByteArray) := if l0.length ≤ 1099511627776 ∧ (Lib.join (l0.map (·.data.toList)) a1.data.toList).length ≤ 1099511627776 then some ⟨(Lib.join (l0.map (·.data.toList)) a1.data.toList).toArray⟩ else none
theorem strings_Join.calls (A0 : Option Addr) (c0 : Nat) (l0 : List ByteArray) (a1 : ByteArray) (r : ByteArray) (w : World) (hr0 : Kd.C Kd.string w A0 l0.length l0) (hc0 : l0.length ≤ c0) (h : strings_Join.f l0 a1 = some r) :
  Calls Tryz.prog 25 #[.slice A0 l0.length c0, .string a1] w fun e w' => e = .returned (.string r) ∧ Below w.heap.size w w' := by
 unfold strings_Join.f at h
 by_cases hs : l0.length ≤ 1099511627776 ∧ (Lib.join (l0.map (·.data.toList)) a1.data.toList).length ≤ 1099511627776
 ·rw [if_pos hs] at h; obtain rfl := Option.some.inj h
  rcases Nat.eq_zero_or_pos l0.length with h0 | h0
  ·obtain rfl := List.eq_nil_of_length_eq_zero h0; exact (Tryz.strings_Join_none A0 c0 a1 w).mono fun e w' ⟨he, hw⟩ => ⟨he, hw ▸ Below.refl _ _⟩
  ·obtain ⟨ad, rfl, hcell⟩ := Kd.at_string hr0 0 (by omega) (by omega); have hsp := World.cell?_spot hcell; have hlt := World.block_lt_of_cell? w _ hcell; obtain ⟨bk, o, sp⟩ := ad; obtain rfl : sp = none := by simpa [Addr.add] using hsp
   refine Tryz.strings_Join bk o c0 l0 a1 w (fun j x hj => ?_) (by simpa [Addr.add] using hlt) (by omega) hc0 (by omega); have hjl : j < l0.length := (List.getElem?_eq_some_iff.1 hj).1; obtain ⟨ad, had, hc⟩ := Kd.at_string hr0 (j : Int) (by omega) (by omega); obtain rfl := Option.some.inj had
   rcases Nat.eq_zero_or_pos j with rfl | hj0
   ·simpa [Addr.add, rdOf, List.getD_eq_getElem?_getD, hj] using hc
   ·have hne : j ≠ 0 := by omega
    simpa [Addr.add, rdOf, List.getD_eq_getElem?_getD, hj, hne] using hc
 ·rw [if_neg hs] at h; cases h


/-! ### strings_Split: function 27 -/
def strings_Split.f (a0 : ByteArray) (a1 : ByteArray) : Option (List ByteArray) := if a0.size < 4294967281 ∧ 1 ≤ a1.size then some (Lib.splitB a1 0 (Lib.countB a0 a1) a0) else none
theorem strings_Split.calls (a0 : ByteArray) (a1 : ByteArray) (r : List ByteArray) (w : World) (hG : Gl w) (h : strings_Split.f a0 a1 = some r) :
  Calls Tryz.prog 27 #[.string a0, .string a1] w fun e w' => ∃ v0_ : Value, e = .returned (v0_) ∧ Kd.R Kd.string 9 w' w.heap.size (fun _ => True) v0_ r ∧ Below w.heap.size w w' := by
 unfold strings_Split.f at h
 by_cases hl : a0.size < 4294967281 ∧ 1 ≤ a1.size
 ·rw [if_pos hl] at h; obtain ⟨hs, h1⟩ := hl; obtain ⟨m, hm⟩ := hG.maxLen; have hr := Option.some.inj h; have hlen : r.length = Lib.countB a0 a1 + 1 := by rw [← hr]; exact Lib.splitB_all a1 h1 0 _ a0 rfl
  have hle := Lib.countB_le a1 h1 a0.size a0 (Nat.le_refl _); refine (Tryz.strings_Split a0 a1 m w hs hm h1).mono ?_; rintro e w' ⟨he, hw⟩; rw [hr] at hw; subst hw; refine ⟨_, he, ?_, below_alloc (Below.refl _ _) _⟩; have ho := World.ownsRow_lit (base := w.heap.size) (e := 9) (size := 1) w (r.map Value.string).toArray (Lib.countB a0 a1 + 1) (Nat.le_refl _) (by unfold maxLen; omega) (by simp [hlen]); refine Kd.R_of_own ?_ (fun _ _ => trivial); rw [hlen]
  simpa [encs] using ho
 ·rw [if_neg hl] at h; cases h


/-! ### stringslite_HasPrefix: function 97 -/
def stringslite_HasPrefix.f (a0 : ByteArray) (a1 : ByteArray) : Option (Bool) := if (a0.size : Int) ≥ (a1.size : Int) then (if 0 ≤ (a1.size : Int) then (if (a1.size : Int) ≤ (a0.size : Int) then (some ((a0.extract 0 ((a1.size : Int) : Int).toNat).toList == a1.toList)) else (none)) else (none)) else (some false)
set_option maxHeartbeats 8000000 in
set_option maxRecDepth 100000 in
theorem stringslite_HasPrefix.calls (a0 : ByteArray) (a1 : ByteArray) (r : Bool) (w : World) (h : stringslite_HasPrefix.f a0 a1 = some r) :
  Calls Tryz.prog 97 #[.string a0, .string a1] w fun e w' => e = .returned (.bool r) ∧ Drawn0 w w' := by
 have H : (if (a0.size : Int) ≥ (a1.size : Int) then (if 0 ≤ (a1.size : Int) then (if (a1.size : Int) ≤ (a0.size : Int) then (some ((a0.extract 0 ((a1.size : Int) : Int).toNat).toList == a1.toList)) else (none)) else (none)) else (some false)) = some r := h; clear h
 by_cases c3 : (a0.size : Int) ≥ (a1.size : Int)
 ·rw [if_pos c3] at H; have c3b0 : decide ((a1.size : Int) ≤ (a0.size : Int)) = true := decide_eq_true c3; have c3b1 : decide (a1.size ≤ a0.size) = true := decide_eq_true (Int.ofNat_le.mp c3); clear c3
  by_cases c4 : 0 ≤ (a1.size : Int)
  ·rw [if_pos c4] at H; have c4b0 := eq_true c4; have c4b1 : decide (0 ≤ (a1.size : Int)) = true := decide_eq_true c4; clear c4
   by_cases c5 : (a1.size : Int) ≤ (a0.size : Int)
   ·rw [if_pos c5] at H; have c5b0 := eq_true c5; have c5b1 : decide ((a1.size : Int) ≤ (a0.size : Int)) = true := decide_eq_true c5; clear c5; obtain rfl := Option.some.inj H; go_enter Tryz.func97, Tryz.ntmps97
    go_wp2
    go_ret; exact ⟨z5, z13⟩
   ·rw [if_neg c5] at H; exact absurd H (by simp)
  ·rw [if_neg c4] at H; exact absurd H (by simp)
 ·rw [if_neg c3] at H; have c3b0 : decide ((a1.size : Int) ≤ (a0.size : Int)) = false := decide_eq_false c3; have c3b1 : decide (a1.size ≤ a0.size) = false := decide_eq_false (fun h => c3 (Int.ofNat_le.mpr h)); clear c3; obtain rfl := Option.some.inj H; go_enter Tryz.func97, Tryz.ntmps97
  go_wp2
  go_ret; exact ⟨z5, z13⟩

/-! ### strings_HasPrefix: function 71 -/
def strings_HasPrefix.f (a0 : ByteArray) (a1 : ByteArray) : Option (Bool) := (stringslite_HasPrefix.f a0 a1).bind fun t334 => (some t334)
set_option maxHeartbeats 8000000 in
set_option maxRecDepth 100000 in
theorem strings_HasPrefix.calls (a0 : ByteArray) (a1 : ByteArray) (r : Bool) (w : World) (h : strings_HasPrefix.f a0 a1 = some r) :
  Calls Tryz.prog 71 #[.string a0, .string a1] w fun e w' => e = .returned (.bool r) ∧ Drawn0 w w' := by
 have H : ((stringslite_HasPrefix.f a0 a1).bind fun t334 => (some t334)) = some r := h; clear h; replace H := Option.bind_eq_some_iff.mp H; obtain ⟨t334, A30, H⟩ := H; (try dsimp only at H); have A3 := Aside0.mk A30; clear A30; obtain rfl := Option.some.inj H; go_enter Tryz.func71, Tryz.ntmps71
 go_wp2_with (first | ((with_reducible refine gate_callee (f := 97) rfl ?_); refine goesR_ 7 Tryz.func97 #[.string a0, .string a1] (stringslite_HasPrefix.calls a0 a1 t334 _ A3.out) ?_; rintro w' ⟨nd, rfl⟩))
 go_ret; exact ⟨z5, z13⟩

/-! ### strings_IndexByte: function 91 -/
def strings_IndexByte.f (a0 : ByteArray) (a1 : Int) : Option (Int) := some (Lib.indexByte a0.data.toList a1.toNat.toUInt8)
theorem strings_IndexByte.calls (a0 : ByteArray) (a1 : Int) (r : Int) (w : World) (h : strings_IndexByte.f a0 a1 = some r) :
  Calls Tryz.prog 91 #[.string a0, .int .u8 a1] w fun e w' => e = .returned (.int .i64 r) ∧ Drawn0 w w' := by
 obtain rfl := Option.some.inj h; exact (Tryz.strings_IndexByte a0 a1 w).mono fun e w' ⟨he, hw⟩ => ⟨he, hw ▸ Drawn0.refl w⟩


/-! ### strings_IndexAny: function 34 -/
theorem ia_get_data (s : ByteArray) (i : Nat) (h : i < s.size) : s.data.toList[i]? = some (s.get! i) := by
 have := get_at s i h; rw [Nat.add_zero] at this; rw [this]
 show s.data.toList[i]? = some s.data[i]
 simp
theorem ia_decode_span (s : ByteArray) (pos : Nat) (h : pos < s.size) (ha : 128 ≤ (s[pos]'h).toNat) : ∀ k, k < (Utf8.decode s pos).2 → ∃ b, s.data.toList[pos + k]? = some b ∧ 128 ≤ b.toNat := by
 have h0 : 128 ≤ (s.get! (pos + 0)).toNat := by rw [get_at s pos h]; exact ha
 have key : ∀ k, pos + k < s.size → 128 ≤ (s.get! (pos + k)).toNat → ∃ b, s.data.toList[pos + k]? = some b ∧ 128 ≤ b.toNat := fun k hk hb => ⟨_, ia_get_data s _ hk, hb⟩; have hn : ¬ (s.get! (pos + 0)).toNat < 128 := by omega
 intro k; simp only [Utf8.decode, hn, if_false]
 repeat' split
 all_goals intro hk
 all_goals simp only [Bool.and_eq_true, decide_eq_true_eq, beq_iff_eq] at *
 all_goals have hk4 : k = 0 ∨ k = 1 ∨ k = 2 ∨ k = 3 := by omega
 all_goals rcases hk4 with rfl | rfl | rfl | rfl
 all_goals first
  | (exact key 0 (by omega) h0)
  | (exact key _ (by omega) (by omega))
  | omega
theorem ia_run_next_any_at {P : Program} (W : World) (k : Nat) (s : ByteArray) (pos : Nat) (ty : TypeId) (hk : W.heap[k]? = some (.stringIter s pos)) (h : pos < s.size) :
  (Instr.next (.pointer (some ⟨k, 0, none⟩)) true ty).run P W =
   .ok (.tuple #[.bool true, .int .i64 pos, .int .i32 (Utf8.decode s pos).1]) { W with heap := W.heap.setIfInBounds k (.stringIter s (pos + (Utf8.decode s pos).2)) } := by
 simp only [Instr.next, getObj, setObj, Sem.run_bind, Sem.run, hk, Result.andThen, h, if_true]
 simp [goInt]
theorem ia_run_next_end_at {P : Program} (W : World) (k : Nat) (s : ByteArray) (pos : Nat) (ty : TypeId) (hk : W.heap[k]? = some (.stringIter s pos)) (h : ¬ pos < s.size) :
  (Instr.next (.pointer (some ⟨k, 0, none⟩)) true ty).run P W = .ok (.tuple #[.bool false]) W := by
 simp [Instr.next, getObj, Sem.run, hk, h]
theorem ia_NoAny_span (s : ByteArray) (chars : List UInt8) (pos : Nat) (h : pos < s.size) (ha : 128 ≤ (s[pos]'h).toNat) (hc : ∀ b ∈ chars, b.toNat < 128) (hn : Lib.NoAny s.data.toList chars pos) : Lib.NoAny s.data.toList chars (pos + (Utf8.decode s pos).2) := by
 intro j b hj hb
 by_cases hlt : j < pos
 ·exact hn j b hlt hb
 ·obtain ⟨b', hb', hge⟩ := ia_decode_span s pos h ha (j - pos) (by omega); rw [show pos + (j - pos) = j by omega] at hb'; rw [hb] at hb'; obtain rfl := Option.some.inj hb'
  cases hq : chars.contains b with
  | false => rfl
  | true => have := hc b (by simpa using hq); omega
theorem ia_decode_in (s : ByteArray) (pos : Nat) (h : pos < s.size) : pos + (Utf8.decode s pos).2 ≤ s.size ∧ 1 ≤ (Utf8.decode s pos).2 := by
 simp only [Utf8.decode]
 repeat' split
 all_goals simp only [Bool.and_eq_true, decide_eq_true_eq, beq_iff_eq] at *
 all_goals omega
theorem ia_run_convert_int_string {P : Program} (w : World) (src dst : TypeId) (k : IntKind) (r : Int) (hs : P.underlying src = some (.int k)) (hd : P.underlying dst = some .string) :
  (convert src dst (.int k r)).run P w = .ok (.string (Utf8.encode r)) w := by
 simp [convert, run_underlying hs, run_underlying hd, Conv.intToString, Result.andThen]
/-- What a rune of 128 and more is written as: two to four bytes, the last of them 128 or more. -/
theorem ia_enc_high (r : Nat) (h0 : 128 ≤ r) (hv : Utf8.valid (r : Int) = true) : ∃ (n : Nat) (b : UInt8), (Utf8.encode (r : Int)).data.toList[n]? = some b ∧ 128 ≤ b.toNat ∧ (Utf8.encode (r : Int)).size = n + 1 ∧ 1 ≤ n ∧ n ≤ 3 := by
 unfold Utf8.encode; simp only [hv, if_true, Int.toNat_natCast]; rw [if_neg (by omega)]
 split
 ·exact ⟨1, UInt8.ofNat (128 + r % 64), by simp, by simp; omega, rfl, by omega, by omega⟩
 ·split
  ·exact ⟨2, UInt8.ofNat (128 + r % 64), by simp, by simp; omega, rfl, by omega, by omega⟩
  ·exact ⟨3, UInt8.ofNat (128 + r % 64), by simp, by simp; omega, rfl, by omega, by omega⟩
theorem ia_quiet_add_same {P : Program} {f : FuncId} {args : Array Value} {w : World} {a n : Nat} {v : Value}
  (h : Calls P f args (w.drewN (a + n)) fun e w' => e = .returned v ∧ w' = w.drewN (a + n)) :
  Calls P f args (w.drewN (a + n)) fun e w'' => e = .returned v ∧ ∃ m, w'' = w.drewN (a + m) :=
 h.mono fun _ _ ⟨he, hm⟩ => ⟨he, n, hm⟩
theorem ia_irempty (b : UInt8) (W : World) : Calls Tryz.prog 91 #[.string ByteArray.empty, .int .u8 (b.toNat : Int)] W fun e w' => e = .returned (.int .i64 (-1)) ∧ w' = W :=
 (Tryz.strings_IndexByte ByteArray.empty (b.toNat : Int) W).mono fun e w' ⟨h1, h2⟩ => ⟨h1, h2⟩
set_option maxHeartbeats 8000000 in
set_option maxRecDepth 100000 in
theorem ia_irune (chars : ByteArray) (h2 : chars.size = 2) (hc : ∀ (j : Nat) b, chars.data.toList[j]? = some b → b.toNat < 128) (r : Nat) (h0 : 128 ≤ r) (h1 : r ≤ 2147483647) (w : World) :
  Calls Tryz.prog 64 #[.string chars, .int .i32 r] w fun e w' => e = .returned (.int .i64 (-1)) ∧ Below w.heap.size w w' := by
 have p1 : decide ((r : Int) < 128) = false := decide_eq_false (by omega); have p2 : (0 ≤ (r : Int)) = True := eq_true (by omega); have HC := Aside0.mk hc; clear hc
 by_cases hE : r = 65533
 ·subst hE; go_enter Tryz.func64, Tryz.ntmps64
  go_wp2
  go_loopg [5, 6] 2 (fun g _ _ wx => ∃ i : Nat, i + g = 2 ∧ wx = w.iter chars i)
  case atStart => exact ⟨0, rfl, rfl⟩
  case round =>
   obtain ⟨i, hig, rfl⟩ := hrel
   cases gk with
   | zero =>
    obtain rfl : i = 2 := by omega
    have hnx := fun ty => run_next_end (P := Tryz.prog) w chars 2 ty (by omega); go_wp2
    go_ret
    exact ⟨rfl, ⟨rfl, rfl, rfl, by simp [World.iter], fun k hk => Below.heap_alloc w _ k hk⟩⟩
   | succ g =>
    have hi : i < chars.size := by omega
    obtain ⟨x, hx⟩ : ∃ x : UInt8, chars[i]'hi = x := ⟨_, rfl⟩; have hx128 : x.toNat < 128 := HC.out i x (by rw [← hx]; exact Lib.data_getElem? chars i hi); have hnx := fun ty => run_next_ascii (P := Tryz.prog) w chars i ty hi (by rw [hx]; exact hx128); rw [hx] at hnx; have hne : ((x.toNat : Int) == 65533) = false := beq_eq_false_iff_ne.2 (by omega); go_wp2
    go_roundg g
    (case measure => omega); case rel => exact ⟨i + 1, by omega, rfl⟩
 ·have hE1 : ((r : Int) == 65533) = false := beq_eq_false_iff_ne.2 (by omega)
  by_cases hv : Lib.validRune r = true
  ·have hval : Utf8.valid (r : Int) = true := by
    simp [Lib.validRune, Utf8.valid] at hv ⊢
    omega
   obtain ⟨n, b, hnb, hb, hsz, hn1, hn3⟩ := ia_enc_high r h0 hval; have kb := fun W => ia_run_convert_int_string (P := Tryz.prog) W 21 9 .i32 (r : Int) Tryz.underlying21 Tryz.underlying9; generalize Utf8.encode (r : Int) = rs at hnb hsz kb; go_enter Tryz.func64, Tryz.ntmps64
   go_wp2_with (go_at_call 92; refine (Tryz.utf8_ValidRune _ _).mono ?_; rintro e w' ⟨rfl, hw⟩; rw [hw, hv])
   go_step3
   go_wp2_with fail
   go_loopg [9] 0 (fun g v9 w' => v9 = .int .i64 (n : Int) ∧ w = w')
   case atStart => exact ⟨by simp [hsz], rfl⟩
   case round =>
    obtain ⟨rfl, rfl⟩ := hrel
    by_cases hn2 : n = 1
    ·subst hn2; have hi : 1 < chars.size := by omega
     have hj : 1 < rs.size := by omega
     have hx128 : (chars[1]'hi).toNat < 128 := HC.out 1 _ (Lib.data_getElem? chars 1 hi); have hrb : rs[1]'hj = b := by have := Lib.data_getElem? rs 1 hj; rw [hnb] at this; exact (Option.some.inj this).symm
     have hne : (((chars[1]'hi).toNat : Int) == ((rs[1]'hj).toNat : Int)) = false := beq_eq_false_iff_ne.2 (by rw [hrb]; omega); have hne2 : (((chars[1]'hi).toNat : Int) != ((rs[1]'hj).toNat : Int)) = true := bne_iff_ne.2 (by rw [hrb]; omega); have hnb1 : (((chars[1]'hi).toNat : Int) == (b.toNat : Int)) = false := beq_eq_false_iff_ne.2 (by omega); have hnb2 : (((chars[1]'hi).toNat : Int) != (b.toNat : Int)) = true := bne_iff_ne.2 (by omega); have hnb3 : ((chars[1]'hi).toNat == b.toNat) = false := beq_eq_false_iff_ne.2 (by omega); have hnb4 : (chars[1]'hi).toNat ≠ b.toNat := by omega
     go_wp2_with fail
     go_step3
     go_wp2_with fail
     go_quiet (fail)
     go_wp2_with fail
     have hw2 : IntKind.i64.wrap 2 = 2 := by decide
     have hz2 : (2 : Int) ≤ (chars.size : Int) := by omega
     have HIB := Aside0.mk (ia_irempty b); clear hnb1 hnb2 hnb3 hnb4 hne hne2 hx128; go_quiet ((go_at_call 91; exact ia_quiet_add_same (HIB.out _)))
     go_wp2_with fail
     go_simp; go_ret; exact ⟨rfl, pw_below_drewN (Below.refl _ _) _⟩
    ·have c1 : decide ((n : Int) < 2) = false := decide_eq_false (by omega); have c2 : ((n : Int) < 2) = False := eq_false (by omega); have c3 : (n < 2) = False := eq_false (by omega); go_wp2_with fail
     rw [Exit.noGoto_ret]; go_ret; exact ⟨rfl, Below.refl _ _⟩
  ·have hv2 : Lib.validRune r = false := by simpa using hv
   go_enter Tryz.func64, Tryz.ntmps64
   go_wp2_with (go_at_call 92; refine (Tryz.utf8_ValidRune _ _).mono ?_; rintro e w' ⟨rfl, hw⟩; rw [hw, hv2])
   go_ret; exact ⟨rfl, Below.refl _ _⟩

theorem ia_iter_heap_set (W : World) (k : Nat) (o : Obj) (hk : k < W.heap.size) : ({ W with heap := W.heap.setIfInBounds k o } : World).heap[k]? = some o := by
 simp [hk]
theorem ia_iter_set_below {w W : World} (h : Below w.heap.size w W) (o : Obj) : Below w.heap.size w { W with heap := W.heap.setIfInBounds w.heap.size o } :=
 ⟨h.os, h.tape, h.output, by simpa using h.size, fun i hi => by
  rw [← h.block i hi]
  show (W.heap.setIfInBounds w.heap.size o)[i]? = _
  rw [Array.getElem?_setIfInBounds_ne (by omega)]⟩
set_option maxHeartbeats 8000000 in
set_option maxRecDepth 100000 in
theorem ia_iany_short (s chars : ByteArray) (w : World) (h2 : chars.size = 2) (h8 : s.size ≤ 8) (hac : ∀ (j : Nat) b, chars.data.toList[j]? = some b → b.toNat < 128) :
  Calls Tryz.prog 34 #[.string s, .string chars] w fun e w' => e = .returned (.int .i64 (Lib.indexAny s.data.toList chars.data.toList)) ∧ Below w.heap.size w w' := by
 have hemp : chars.toList.isEmpty = false := by
  rw [Lib.toList_data]
  cases h : chars.data.toList with
  | nil => have := Lib.size_eq chars; rw [h, List.length_nil] at this; omega
  | cons _ _ => rfl
 have hn1 : ((chars.size : Int) == 1) = false := beq_eq_false_iff_ne.2 (by omega); have h8z : decide ((8 : Int) < (s.size : Int)) = false := decide_eq_false (by omega); have IR := Aside0.mk (ia_irune chars h2 hac); have HA := Aside0.mk hac; have H2 := Aside0.mk h2; clear h2 hac; go_enter Tryz.func34, Tryz.ntmps34
 go_wp2_with (go_at_call 65; refine (Tryz.strings_shouldUseASCIISet _ _).mono ?_; rintro e w' ⟨rfl, hw⟩; rw [hw, h8z])
 go_loopg [9, 10] s.size (fun g _ _ wx => ∃ i : Nat, i ≤ s.size ∧ s.size ≤ i + g ∧ Aside0 (wx.heap[w.heap.size]? = some (.stringIter s i)) ∧ Aside0 (Below w.heap.size w wx) ∧ Aside0 (Lib.NoAny s.data.toList chars.data.toList i))
 case atStart => exact ⟨0, by omega, by omega, ⟨World.iter_heap w s 0⟩, ⟨below_alloc (Below.refl _ _) _⟩, ⟨Lib.NoAny.zero _ _⟩⟩
 case round =>
  obtain ⟨i, hil, hig, HI, HB, HN⟩ := hrel
  by_cases hi : i < s.size
  ·cases gk with
   | zero => omega
   | succ g =>
    have hnx0 := fun ty => ia_run_next_any_at (P := Tryz.prog) wr w.heap.size s i ty HI.out hi; have hlt : w.heap.size < wr.heap.size := blk_lt HI.out; have hin := ia_decode_in s i hi; have HS0 := ia_NoAny_span s chars.data.toList i hi; obtain ⟨W2, hW2⟩ : ∃ W2 : World, { wr with heap := wr.heap.setIfInBounds w.heap.size (.stringIter s (i + (Utf8.decode s i).2)) } = W2 := ⟨_, rfl⟩; have HI2 : Aside0 (W2.heap[w.heap.size]? = some (.stringIter s (i + (Utf8.decode s i).2))) := ⟨by rw [← hW2]; exact ia_iter_heap_set wr _ _ hlt⟩; have HB2 : Aside0 (Below w.heap.size w W2) := ⟨by rw [← hW2]; exact ia_iter_set_below HB.out _⟩; rw [hW2] at hnx0; clear hW2 hlt HB
    by_cases hx128 : (s[i]'hi).toNat < 128
    ·have hd := decode_ascii s i hi hx128; obtain ⟨x, hx⟩ : ∃ x : UInt8, s[i]'hi = x := ⟨_, rfl⟩; have hxl : s.data.toList[i]? = some x := by rw [← hx]; exact Lib.data_getElem? s i hi
     rw [hd] at hin HI2; simp only [hd, hx] at hnx0 HI2 hin; rw [hx] at hx128; have hnx := hnx0; clear hnx0 HI hd HS0; have Hx := Aside0.mk hxl; clear hxl hx; have hcon := Lib.contains_iff_indexByte chars.data.toList x; have hback : ((x.toNat : Int)).toNat.toUInt8 = x := by simp
     cases hinc : chars.data.toList.contains x
     ·rw [hinc] at hcon; have hltb : ¬ ((0 : Int) ≤ Lib.indexByte chars.data.toList x) := of_decide_eq_false hcon.symm; clear hcon; go_wp2_with (go_at_call 64; refine (Tryz.strings_IndexRune_ascii _ _ _ (by omega) (by omega)).mono ?_; rintro e w' ⟨rfl, hw⟩; rw [hw, hback])
      go_roundg g
      (case measure => omega); case rel => exact ⟨i + 1, by omega, by omega, HI2, HB2, ⟨HN.out.succ Hx.out hinc⟩⟩
     ·rw [hinc] at hcon; have hge : (0 : Int) ≤ Lib.indexByte chars.data.toList x := of_decide_eq_true hcon.symm; clear hcon; go_wp2_with (go_at_call 64; refine (Tryz.strings_IndexRune_ascii _ _ _ (by omega) (by omega)).mono ?_; rintro e w' ⟨rfl, hw⟩; rw [hw, hback])
      go_ret; exact ⟨by rw [Lib.indexAny_hit HN.out Hx.out hinc]; rfl, HB2.out⟩
    ·have hd := decode_high s i hi (by omega); have hle := decode_le s i; have HS := Aside0.mk (HS0 (by omega) (fun b hb => by obtain ⟨j, hj⟩ := List.mem_iff_getElem?.1 hb; exact HA.out j b hj) HN.out); clear HS0 hx128 HN; obtain ⟨dd, hdd⟩ : ∃ dd, Utf8.decode s i = dd := ⟨_, rfl⟩; rw [hdd] at HS hd hle HI2 hin; simp only [hdd] at hnx0; have hnx := hnx0; clear hnx0 HI hdd; obtain ⟨rr, nn⟩ := dd; dsimp only at hnx HS hd hle HI2 hin; go_wp2_with (go_at_call 64; (with_reducible refine (IR.out rr (by omega) (by omega) _).mono ?_); rintro e w' ⟨rfl, hb⟩; have hI3 := Aside0.mk (blk_below HI2.out hb); have hB3 := Aside0.mk (below_step HB2.out hb); clear hb)
     go_roundg g
     (case measure => omega); case rel => exact ⟨i + nn, by omega, by omega, hI3, hB3, HS⟩
  ·obtain rfl : i = s.size := by omega
   have hnx := fun ty => ia_run_next_end_at (P := Tryz.prog) wr w.heap.size s s.size ty HI.out hi; go_wp2
   go_ret; exact ⟨by rw [Lib.indexAny_none (by rw [← Lib.size_eq]; exact HN.out)]; rfl, HB.out⟩

def strings_IndexAny.f (a0 : ByteArray) (a1 : ByteArray) : Option Int := if a0.size < 4294967281 ∧ a1.size = 2 ∧ (a1.data.toList.all fun b => decide (b.toNat < 128)) = true then some (Lib.indexAny a0.data.toList a1.data.toList) else none
theorem strings_IndexAny.calls (a0 : ByteArray) (a1 : ByteArray) (r : Int) (w : World) (h : strings_IndexAny.f a0 a1 = some r) :
  Calls Tryz.prog 34 #[.string a0, .string a1] w fun e w' => e = .returned (.int .i64 r) ∧ Below w.heap.size w w' := by
 unfold strings_IndexAny.f at h
 by_cases hl : a0.size < 4294967281 ∧ a1.size = 2 ∧ (a1.data.toList.all fun b => decide (b.toNat < 128)) = true
 ·rw [if_pos hl] at h; obtain ⟨hs, h2, ha⟩ := hl; have hac : ∀ (j : Nat) b, a1.data.toList[j]? = some b → b.toNat < 128 := fun j b hj => of_decide_eq_true (List.all_eq_true.1 ha b (List.mem_iff_getElem?.2 ⟨j, hj⟩)); obtain rfl := Option.some.inj h
  by_cases h8 : a0.size ≤ 8
  ·exact ia_iany_short a0 a1 w h2 h8 hac
  ·refine (Any.strings_IndexAny_long Tryz.lays153 (zero_of_info (t := 80) (n := 256) (by kernel_rfl)).1 (by kernel_rfl) a0 a1 w (by omega) (by omega) hs (by omega) hac).mono fun e w' ⟨h1, h2⟩ => ⟨h1, ?_⟩; rw [h2]; exact ((Below.refl _ _).alloc (Nat.le_refl _) _).alloc (by simp) _
 ·rw [if_neg hl] at h; cases h


/-! ### strings_ContainsAny: function 72 -/
def strings_ContainsAny.f (a0 : ByteArray) (a1 : ByteArray) : Option (Bool) := (strings_IndexAny.f a0 a1).bind fun t335 => (some (decide (t335 ≥ 0)))
set_option maxHeartbeats 8000000 in
set_option maxRecDepth 100000 in
theorem strings_ContainsAny.calls (a0 : ByteArray) (a1 : ByteArray) (r : Bool) (w : World) (h : strings_ContainsAny.f a0 a1 = some r) :
  Calls Tryz.prog 72 #[.string a0, .string a1] w fun e w' => e = .returned (.bool r) ∧ Below w.heap.size w w' := by
 have HB := Aside0.mk (Below.refl w.heap.size w); have H : ((strings_IndexAny.f a0 a1).bind fun t335 => (some (decide (t335 ≥ 0)))) = some r := h; clear h; replace H := Option.bind_eq_some_iff.mp H; obtain ⟨t335, A30, H⟩ := H; (try dsimp only at H); have A3 := Aside0.mk A30; clear A30; obtain rfl := Option.some.inj H; go_enter Tryz.func72, Tryz.ntmps72
 go_wp2_with (first | ((with_reducible refine gate_callee (f := 34) rfl ?_); refine goesR_ 7 Tryz.func34 #[.string a0, .string a1] (strings_IndexAny.calls a0 a1 t335 _ A3.out) ?_; rintro w4 hb; replace HB := Aside0.mk (below_step z0 hb); (try clear hb)))
 go_ret; exact ⟨z2, z0⟩

/-! ### impl_isDigit: function 83 -/
def impl_isDigit.f (a0 : Int) : Option (Bool) := if a0 ≥ 48 then (some (decide (a0 ≤ 57))) else (some false)
set_option maxHeartbeats 8000000 in
set_option maxRecDepth 100000 in
theorem impl_isDigit.calls (a0 : Int) (r : Bool) (w : World) (h : impl_isDigit.f a0 = some r) :
  Calls Tryz.prog 83 #[.int .u8 a0] w fun e w' => e = .returned (.bool r) ∧ Drawn0 w w' := by
 have H : (if a0 ≥ 48 then (some (decide (a0 ≤ 57))) else (some false)) = some r := h; clear h
 by_cases c2 : a0 ≥ 48
 ·rw [if_pos c2] at H; have c2b0 : decide (48 ≤ a0) = true := decide_eq_true c2; clear c2; obtain rfl := Option.some.inj H; go_enter Tryz.func83, Tryz.ntmps83
  go_wp2
  go_ret; exact ⟨z5, z13⟩
 ·rw [if_neg c2] at H; have c2b0 : decide (48 ≤ a0) = false := decide_eq_false c2; clear c2; obtain rfl := Option.some.inj H; go_enter Tryz.func83, Tryz.ntmps83
  go_wp2
  go_ret; exact ⟨z5, z13⟩

/-! ### impl_hexOf: function 98 -/
def impl_hexOf.j0 : Nat → Int → Bool → Option (Int)
 | 0, _, _ => none
 | k + 1, x0, x9 => if x9 = true then (some (((x0 - 97) % 256) + 10)) else (if x0 ≥ 65 then (if x0 ≤ 70 then (some (((x0 - 65) % 256) + 10)) else (some (-1))) else (some (-1)))
def impl_hexOf.f (k : Nat) (a0 : Int) : Option (Int) := (impl_isDigit.f a0).bind fun t336 => (if t336 = true then (some ((a0 - 48) % 256)) else (if a0 ≥ 97 then (impl_hexOf.j0 k a0 (decide (a0 ≤ 102))) else (impl_hexOf.j0 k a0 false)))
theorem impl_hexOf.mono_l : ∀ k, (∀ y0 y1, LeO (impl_hexOf.j0 k y0 y1) (impl_hexOf.j0 (k + 1) y0 y1))
 | 0 => fun _ _ r h => by simp [impl_hexOf.j0] at h
 | k + 1 => by
  have ih0 := impl_hexOf.mono_l k
  ·intro y0 y1; unfold impl_hexOf.j0
   repeat' first | (with_reducible first | exact ih0 _ _ | exact LeO.refl _ | exact LeO.none _ | refine LeO.ite ?_ ?_ | refine LeO.bind ?_ (fun _ => ?_)) | exact ih0 _ _ | exact LeO.none _ | refine LeO.ite ?_ ?_ | refine LeO.bind ?_ (fun _ => ?_)
theorem impl_hexOf.mono : ∀ a0 k, LeO (impl_hexOf.f k a0) (impl_hexOf.f (k + 1) a0) := by
 intro a0 k; have ih0 := impl_hexOf.mono_l k; unfold impl_hexOf.f
 repeat' first | (with_reducible first | exact ih0 _ _ | exact LeO.refl _ | exact LeO.none _ | refine LeO.ite ?_ ?_ | refine LeO.bind ?_ (fun _ => ?_)) | exact ih0 _ _ | exact LeO.none _ | refine LeO.ite ?_ ?_ | refine LeO.bind ?_ (fun _ => ?_)
set_option maxHeartbeats 8000000 in
set_option maxRecDepth 100000 in
theorem impl_hexOf.calls (k : Nat) (a0 : Int) (r : Int) (w : World) (h : impl_hexOf.f k a0 = some r) :
  Calls Tryz.prog 98 #[.int .u8 a0] w fun e w' => e = .returned (.int .i64 r) ∧ Drawn0 w w' := by
 have H : ((impl_isDigit.f a0).bind fun t336 => (if t336 = true then (some ((a0 - 48) % 256)) else (if a0 ≥ 97 then (impl_hexOf.j0 k a0 (decide (a0 ≤ 102))) else (impl_hexOf.j0 k a0 false)))) = some r := h; clear h; replace H := Option.bind_eq_some_iff.mp H; obtain ⟨t336, A20, H⟩ := H; (try dsimp only at H); have A2 := Aside0.mk A20; clear A20; have HC3 := Aside0.mk H; clear H; go_enter Tryz.func98, Tryz.ntmps98
 go_upto_if 3 with (first | ((with_reducible refine gate_callee (f := 83) rfl ?_); refine goesR_ 5 Tryz.func83 #[.int .u8 a0] (impl_isDigit.calls a0 t336 _ A2.out) ?_; rintro w' ⟨nd, rfl⟩))
 have H := HC3.out; clear HC3
 by_cases c4 : t336 = true
 ·subst c4; rw [if_pos rfl] at H; obtain rfl := Option.some.inj H; go_wp2
  go_ret; exact ⟨z5, z13⟩
 ·replace c4 := Bool.eq_false_iff.mpr c4; subst c4; rw [if_neg Bool.false_ne_true] at H; have HC5 := Aside0.mk H; clear H; go_upto_region 3 with (fail)
  go_cut [9] (fun v9 wc => ∃ (kq : Nat) (x9_4 : Bool), v9 = .bool x9_4 ∧ Aside0 (impl_hexOf.j0 kq a0 x9_4 = some r) ∧ Aside0 (kq ≤ k) ∧ Drawn0 w wc)
  case first =>
   have H := HC5.out; clear HC5
   by_cases c6 : a0 ≥ 97
   ·rw [if_pos c6] at H; have c6b0 : decide (97 ≤ a0) = true := decide_eq_true c6; clear c6; (first | rw [c6b0] | (simp only [i64_w, i32_w]; rw [c6b0]) | skip); have H' := Aside0.mk H; clear H; go_wp2
    go_meet
    case rel => exact ⟨_, (decide (a0 ≤ 102)), z5, H', ⟨z35⟩, z13⟩
   ·rw [if_neg c6] at H; have c6b0 : decide (97 ≤ a0) = false := decide_eq_false c6; clear c6; (first | rw [c6b0] | (simp only [i64_w, i32_w]; rw [c6b0]) | skip); have H' := Aside0.mk H; clear H; go_wp2
    go_meet
    case rel => exact ⟨_, (false), z5, H', ⟨z35⟩, z13⟩
  case rest =>
   clear HC5; (try clear p2); (try clear c4); (try clear c6); (try clear c6b0); obtain ⟨kq, x9_4, rfl, HA, HJ4, ⟨mc4, rfl⟩⟩ := hcut
   cases kq with
   | zero => exact absurd HA.out (by simp [impl_hexOf.j0])
   | succ kj4 =>
    have H := HA.out; clear HA; simp only [impl_hexOf.j0] at H
    by_cases c7 : x9_4 = true
    ·subst c7; rw [if_pos rfl] at H; obtain rfl := Option.some.inj H; go_wp2
     go_ret; exact ⟨z5, z13⟩
    ·replace c7 := Bool.eq_false_iff.mpr c7; subst c7; rw [if_neg Bool.false_ne_true] at H
     by_cases c8 : a0 ≥ 65
     ·rw [if_pos c8] at H; have c8b0 : decide (65 ≤ a0) = true := decide_eq_true c8; clear c8
      by_cases c9 : a0 ≤ 70
      ·rw [if_pos c9] at H; have c9b0 : decide (a0 ≤ 70) = true := decide_eq_true c9; clear c9; obtain rfl := Option.some.inj H; go_wp2
       go_ret; exact ⟨z5, z13⟩
      ·rw [if_neg c9] at H; have c9b0 : decide (a0 ≤ 70) = false := decide_eq_false c9; clear c9; obtain rfl := Option.some.inj H; go_wp2
       go_ret; exact ⟨z5, z13⟩
     ·rw [if_neg c8] at H; have c8b0 : decide (65 ≤ a0) = false := decide_eq_false c8; clear c8; obtain rfl := Option.some.inj H; go_wp2
      go_ret; exact ⟨z5, z13⟩

/-! ### impl_isUpper: function 63 -/
def impl_isUpper.f (a0 : Int) : Option (Bool) := if a0 ≥ 65 then (some (decide (a0 ≤ 90))) else (some false)
set_option maxHeartbeats 8000000 in
set_option maxRecDepth 100000 in
theorem impl_isUpper.calls (a0 : Int) (r : Bool) (w : World) (h : impl_isUpper.f a0 = some r) :
  Calls Tryz.prog 63 #[.int .u8 a0] w fun e w' => e = .returned (.bool r) ∧ Drawn0 w w' := by
 have H : (if a0 ≥ 65 then (some (decide (a0 ≤ 90))) else (some false)) = some r := h; clear h
 by_cases c2 : a0 ≥ 65
 ·rw [if_pos c2] at H; have c2b0 : decide (65 ≤ a0) = true := decide_eq_true c2; clear c2; obtain rfl := Option.some.inj H; go_enter Tryz.func63, Tryz.ntmps63
  go_wp2
  go_ret; exact ⟨z5, z13⟩
 ·rw [if_neg c2] at H; have c2b0 : decide (65 ≤ a0) = false := decide_eq_false c2; clear c2; obtain rfl := Option.some.inj H; go_enter Tryz.func63, Tryz.ntmps63
  go_wp2
  go_ret; exact ⟨z5, z13⟩

/-! ### impl_isLower: function 82 -/
def impl_isLower.f (a0 : Int) : Option (Bool) := if a0 ≥ 97 then (some (decide (a0 ≤ 122))) else (some false)
set_option maxHeartbeats 8000000 in
set_option maxRecDepth 100000 in
theorem impl_isLower.calls (a0 : Int) (r : Bool) (w : World) (h : impl_isLower.f a0 = some r) :
  Calls Tryz.prog 82 #[.int .u8 a0] w fun e w' => e = .returned (.bool r) ∧ Drawn0 w w' := by
 have H : (if a0 ≥ 97 then (some (decide (a0 ≤ 122))) else (some false)) = some r := h; clear h
 by_cases c2 : a0 ≥ 97
 ·rw [if_pos c2] at H; have c2b0 : decide (97 ≤ a0) = true := decide_eq_true c2; clear c2; obtain rfl := Option.some.inj H; go_enter Tryz.func82, Tryz.ntmps82
  go_wp2
  go_ret; exact ⟨z5, z13⟩
 ·rw [if_neg c2] at H; have c2b0 : decide (97 ≤ a0) = false := decide_eq_false c2; clear c2; obtain rfl := Option.some.inj H; go_enter Tryz.func82, Tryz.ntmps82
  go_wp2
  go_ret; exact ⟨z5, z13⟩

end Go.Proofs.YtkkolioolgpljaaGreatDoor.GFnUrls
