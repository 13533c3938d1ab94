-- Laid by gen.py of this session (over the kit's printing program): what the law FnExactChunkText reaches, as Lean functions, and that Go comes to just that.
import Derived.Test.YtnfjjbpochmhpaaDoorGFnExactChunkTextx0
namespace Go.Proofs.YtnfjjbpochmhpaaDoor.GFnExactChunkText
open Go.RowKit Go.Proofs.YtnfjjbpochmhpaaDoorW.PrintWords Go.Proofs.YtnfjjbpochmhpaaDoorW.PrintLast Go.Proofs.YtnfjjbpochmhpaaDoorW.PrintMore
attribute [local go_sem] max2_int min2_int max_two min_two max_three min_three max_four min_four   -- for this text's walks alone
set_option linter.unusedVariables false
set_option linter.unusedSimpArgs false

/-! ### spec_HexText: function 29 -/
mutual
def spec_HexText.j0 : Nat → Int → Bool → Option (ByteArray)
  | 0, _, _ => none
  | k + 1, x0, x9 => if x9 = true then (some (⟨#[]⟩ : ByteArray)) else (if 0 ≤ (Int.tmod x0 16) then (if (Int.tmod x0 16) ≤ (wrap64 ((Int.tmod x0 16) + 1)) then (if (wrap64 ((Int.tmod x0 16) + 1)) ≤ 16 then (if x0 < 16 then (some ((⟨#[48, 49, 50, 51, 52, 53, 54, 55, 56, 57, 97, 98, 99, 100, 101, 102]⟩ : ByteArray).extract ((Int.tmod x0 16) : Int).toNat ((wrap64 ((Int.tmod x0 16) + 1)) : Int).toNat)) else ((spec_HexText.f k (wrap64 (Int.tdiv x0 16))).bind fun t101 => (if t101.size + ((⟨#[48, 49, 50, 51, 52, 53, 54, 55, 56, 57, 97, 98, 99, 100, 101, 102]⟩ : ByteArray).extract ((Int.tmod x0 16) : Int).toNat ((wrap64 ((Int.tmod x0 16) + 1)) : Int).toNat).size ≤ 9223372036854775807 then (some (t101 ++ ((⟨#[48, 49, 50, 51, 52, 53, 54, 55, 56, 57, 97, 98, 99, 100, 101, 102]⟩ : ByteArray).extract ((Int.tmod x0 16) : Int).toNat ((wrap64 ((Int.tmod x0 16) + 1)) : Int).toNat))) else (none)))) else (none)) else (none)) else (none))
def spec_HexText.f : Nat → Int → Option (ByteArray)
  | 0, _ => none
  | k + 1, a0 => if a0 < 0 then (spec_HexText.j0 k a0 true) else (spec_HexText.j0 k a0 (decide (a0 > 268435455)))
end
theorem spec_HexText.mono_l : ∀ k, (∀ y0, LeO (spec_HexText.f k y0) (spec_HexText.f (k + 1) y0)) ∧ (∀ y0 y1, LeO (spec_HexText.j0 k y0 y1) (spec_HexText.j0 (k + 1) y0 y1))
  | 0 => ⟨fun _ r h => by simp [spec_HexText.f] at h, fun _ _ r h => by simp [spec_HexText.j0] at h⟩
  | k + 1 => by
    obtain ⟨ih0, ih1⟩ := spec_HexText.mono_l k
    refine ⟨?_, ?_⟩
    · intro y0
      unfold spec_HexText.f
      repeat' first
      | (with_reducible exact ih0 _)
      | (with_reducible exact ih1 _ _)
      | (with_reducible exact LeO.refl _)
      | (with_reducible exact LeO.none _)
      | (with_reducible refine LeO.ite ?_ ?_)
      | (with_reducible refine LeO.bind ?_ (fun _ => ?_))
      | exact ih0 _
      | exact ih1 _ _
      | exact LeO.none _
      | refine LeO.ite ?_ ?_
      | refine LeO.bind ?_ (fun _ => ?_)
    · intro y0 y1
      unfold spec_HexText.j0
      repeat' first
      | (with_reducible exact ih0 _)
      | (with_reducible exact ih1 _ _)
      | (with_reducible exact LeO.refl _)
      | (with_reducible exact LeO.none _)
      | (with_reducible refine LeO.ite ?_ ?_)
      | (with_reducible refine LeO.bind ?_ (fun _ => ?_))
      | exact ih0 _
      | exact ih1 _ _
      | exact LeO.none _
      | refine LeO.ite ?_ ?_
      | refine LeO.bind ?_ (fun _ => ?_)
theorem spec_HexText.mono : ∀ a0 k, LeO (spec_HexText.f k a0) (spec_HexText.f (k + 1) a0) := by
  intro a0 k
  obtain ⟨ih0, ih1⟩ := spec_HexText.mono_l k
  exact ih0 a0
set_option maxHeartbeats 8000000 in
set_option maxRecDepth 100000 in
theorem spec_HexText.calls (k : Nat) : ∀ (a0 : Int) (r : ByteArray) (w : World) (h : spec_HexText.f k a0 = some r),
    Calls Tryd.prog 29 #[.int .i64 a0] w fun e w' => e = .returned (.string r) ∧ Drawn0 w w' := by
  induction k using Nat.strongRecOn with
  | _ k ih =>
  intro a0 r w h
  cases k with
  | zero => exact absurd h (by simp [spec_HexText.f])
  | succ k =>
  simp only [spec_HexText.f] at h
  have H : (if a0 < 0 then (spec_HexText.j0 k a0 true) else (spec_HexText.j0 k a0 (decide (a0 > 268435455)))) = some r := h
  clear h
  have HC2 := Aside0.mk H
  clear H
  go_enter Tryd.func29, Tryd.ntmps29
  go_upto_region 1 with (fail)
  go_cut [9] (fun v9 wc => ∃ (kq : Nat) (x9_1 : Bool), v9 = .bool x9_1 ∧ Aside0 (spec_HexText.j0 kq a0 x9_1 = some r) ∧ Aside0 (kq ≤ k) ∧ Drawn0 w wc)
  case first =>
    have H := HC2.out
    clear HC2
    by_cases c3 : a0 < 0
    · rw [if_pos c3] at H
      have c3b0 : decide (a0 < 0) = true := decide_eq_true c3
      clear c3
      (first | rw [c3b0] | (simp only [i64_w, i32_w]; rw [c3b0]) | skip)
      have H' := Aside0.mk H
      clear H
      go_wp2
      go_meet
      case rel => exact ⟨_, (true), (by first | rfl | (simp; done) | (simp [*]; done)), H', ⟨by first | omega | exact Nat.le_refl _⟩, by repeat (first | exact Drawn0.refl _ | apply Drawn0.step)⟩
    · rw [if_neg c3] at H
      have c3b0 : decide (a0 < 0) = false := decide_eq_false c3
      clear c3
      (first | rw [c3b0] | (simp only [i64_w, i32_w]; rw [c3b0]) | skip)
      have H' := Aside0.mk H
      clear H
      go_wp2
      go_meet
      case rel => exact ⟨_, (decide (a0 > 268435455)), (by first | rfl | (simp; done) | (simp [*]; done)), H', ⟨by first | omega | exact Nat.le_refl _⟩, by repeat (first | exact Drawn0.refl _ | apply Drawn0.step)⟩
  case rest =>
    clear HC2
    try clear c2
    try clear p2
    try clear c3
    try clear c3b0
    obtain ⟨kq, x9_1, rfl, HA, HJ1, ⟨mc1, rfl⟩⟩ := hcut
    cases kq with
    | zero => exact absurd HA.out (by simp [spec_HexText.j0])
    | succ kj1 =>
      have H := HA.out
      clear HA
      simp only [spec_HexText.j0] at H
      by_cases c4 : x9_1 = true
      · subst c4
        have H1 : (some (⟨#[]⟩ : ByteArray)) = some r := by rw [if_pos rfl] at H; exact H
        clear H
        have H := H1
        clear H1
        obtain rfl := Option.some.inj H
        go_wp2
        go_ret
        exact ⟨by first | rfl | (simp; done) | (simp [*]; done), by repeat (first | exact Drawn0.refl _ | apply Drawn0.step)⟩
      · replace c4 := Bool.eq_false_iff.mpr c4
        subst c4
        have H1 : (if 0 ≤ (Int.tmod a0 16) then (if (Int.tmod a0 16) ≤ (wrap64 ((Int.tmod a0 16) + 1)) then (if (wrap64 ((Int.tmod a0 16) + 1)) ≤ 16 then (if a0 < 16 then (some ((⟨#[48, 49, 50, 51, 52, 53, 54, 55, 56, 57, 97, 98, 99, 100, 101, 102]⟩ : ByteArray).extract ((Int.tmod a0 16) : Int).toNat ((wrap64 ((Int.tmod a0 16) + 1)) : Int).toNat)) else ((spec_HexText.f kj1 (wrap64 (Int.tdiv a0 16))).bind fun t101 => (if t101.size + ((⟨#[48, 49, 50, 51, 52, 53, 54, 55, 56, 57, 97, 98, 99, 100, 101, 102]⟩ : ByteArray).extract ((Int.tmod a0 16) : Int).toNat ((wrap64 ((Int.tmod a0 16) + 1)) : Int).toNat).size ≤ 9223372036854775807 then (some (t101 ++ ((⟨#[48, 49, 50, 51, 52, 53, 54, 55, 56, 57, 97, 98, 99, 100, 101, 102]⟩ : ByteArray).extract ((Int.tmod a0 16) : Int).toNat ((wrap64 ((Int.tmod a0 16) + 1)) : Int).toNat))) else (none)))) else (none)) else (none)) else (none)) = some r := by rw [if_neg (show ¬ (false = true) by decide)] at H; exact H
        clear H
        have H := H1
        clear H1
        obtain ⟨ji5, hji5⟩ : ∃ j_ : Int, (Int.tmod a0 16) = j_ := ⟨_, rfl⟩
        replace H : (if 0 ≤ (ji5) then (if (ji5) ≤ (wrap64 ((ji5) + 1)) then (if (wrap64 ((ji5) + 1)) ≤ 16 then (if a0 < 16 then (some ((⟨#[48, 49, 50, 51, 52, 53, 54, 55, 56, 57, 97, 98, 99, 100, 101, 102]⟩ : ByteArray).extract ((ji5) : Int).toNat ((wrap64 ((ji5) + 1)) : Int).toNat)) else ((spec_HexText.f kj1 (wrap64 (Int.tdiv a0 16))).bind fun t101 => (if t101.size + ((⟨#[48, 49, 50, 51, 52, 53, 54, 55, 56, 57, 97, 98, 99, 100, 101, 102]⟩ : ByteArray).extract ((ji5) : Int).toNat ((wrap64 ((ji5) + 1)) : Int).toNat).size ≤ 9223372036854775807 then (some (t101 ++ ((⟨#[48, 49, 50, 51, 52, 53, 54, 55, 56, 57, 97, 98, 99, 100, 101, 102]⟩ : ByteArray).extract ((ji5) : Int).toNat ((wrap64 ((ji5) + 1)) : Int).toNat))) else (none)))) else (none)) else (none)) else (none)) = some r := by first | (rw [hji5] at H; exact H) | (simp only [hji5] at H ⊢; exact H)
        by_cases c6 : 0 ≤ (ji5)
        · rw [if_pos c6] at H
          have c6b0 := eq_true c6
          have c6b1 : decide (0 ≤ (ji5)) = true := decide_eq_true c6
          clear c6
          by_cases c7 : (ji5) ≤ (wrap64 ((ji5) + 1))
          · rw [if_pos c7] at H
            have c7b0 := eq_true c7
            have c7b1 : decide ((ji5) ≤ (wrap64 ((ji5) + 1))) = true := decide_eq_true c7
            by_cases c8 : (wrap64 ((ji5) + 1)) ≤ 16
            · rw [if_pos c8] at H
              have c8b0 := eq_true c8
              have c8b1 : decide ((wrap64 ((ji5) + 1)) ≤ 16) = true := decide_eq_true c8
              by_cases c9 : a0 < 16
              · rw [if_pos c9] at H
                have c9b0 : decide (a0 < 16) = true := decide_eq_true c9
                clear c9
                obtain rfl := Option.some.inj H
                go_wp2
                go_ret
                exact ⟨by first | rfl | (simp; done) | (simp only [← hji5] <;> (first | rfl | simp)) | (simp [*]; done), by repeat (first | exact Drawn0.refl _ | apply Drawn0.step)⟩
              · rw [if_neg c9] at H
                have c9b0 : decide (a0 < 16) = false := decide_eq_false c9
                clear c9
                replace H := Option.bind_eq_some_iff.mp H
                obtain ⟨t101, A100, H⟩ := H
                replace H : (if t101.size + ((⟨#[48, 49, 50, 51, 52, 53, 54, 55, 56, 57, 97, 98, 99, 100, 101, 102]⟩ : ByteArray).extract ((ji5) : Int).toNat ((wrap64 ((ji5) + 1)) : Int).toNat).size ≤ 9223372036854775807 then (some (t101 ++ ((⟨#[48, 49, 50, 51, 52, 53, 54, 55, 56, 57, 97, 98, 99, 100, 101, 102]⟩ : ByteArray).extract ((ji5) : Int).toNat ((wrap64 ((ji5) + 1)) : Int).toNat))) else (none)) = some r := H
                have A10 := Aside0.mk A100
                clear A100
                by_cases c11 : t101.size + ((⟨#[48, 49, 50, 51, 52, 53, 54, 55, 56, 57, 97, 98, 99, 100, 101, 102]⟩ : ByteArray).extract ((ji5) : Int).toNat ((wrap64 ((ji5) + 1)) : Int).toNat).size ≤ 9223372036854775807
                · rw [if_pos c11] at H
                  have c11b0 := eq_true c11
                  have c11b1 : decide (t101.size + ((⟨#[48, 49, 50, 51, 52, 53, 54, 55, 56, 57, 97, 98, 99, 100, 101, 102]⟩ : ByteArray).extract ((ji5) : Int).toNat ((wrap64 ((ji5) + 1)) : Int).toNat).size ≤ 9223372036854775807) = true := decide_eq_true c11
                  try have c11b2 : (9223372036854775807 < t101.size + ((⟨#[48, 49, 50, 51, 52, 53, 54, 55, 56, 57, 97, 98, 99, 100, 101, 102]⟩ : ByteArray).extract ((ji5) : Int).toNat ((wrap64 ((ji5) + 1)) : Int).toNat).size) = False := eq_false (Nat.not_lt.2 c11)
                  obtain rfl := Option.some.inj H
                  go_wp2_with (first | ((with_reducible refine gate_callee (f := 29) rfl ?_); refine goesL_ (some 21) rfl rfl Tryd.func29 (by kernel_rfl) rfl #[.int .i64 (wrap64 (Int.tdiv a0 16))] rfl (by (try simp only [List.map_toArray, List.map_cons, List.map_nil]); first | done | rfl | (simp only [List.length_drop, List.length_take]; rfl)) ?_; (with_reducible refine (ih kj1 (by have := HJ1.out; omega) (wrap64 (Int.tdiv a0 16)) t101 _ A10.out).mono ?_); rintro e w' ⟨rfl, ⟨nd, rfl⟩⟩; refine ⟨_, rfl, ?_⟩))
                  go_ret
                  exact ⟨by first | rfl | (simp; done) | (simp only [← hji5] <;> (first | rfl | simp)) | (simp [*]; done), by repeat (first | exact Drawn0.refl _ | apply Drawn0.step)⟩
                · rw [if_neg c11] at H
                  exact absurd H (by simp)
            · rw [if_neg c8] at H
              exact absurd H (by simp)
          · rw [if_neg c7] at H
            exact absurd H (by simp)
        · rw [if_neg c6] at H
          exact absurd H (by simp)

/-! ### spec_ChunkText: function 10 -/
mutual
def spec_ChunkText.j0 : Nat → ByteArray → Int → Bool → Option (ByteArray)
  | 0, _, _, _ => none
  | k + 1, x0, x1, x18 => if x18 = true then (some (⟨#[]⟩ : ByteArray)) else (spec_ChunkText.l0 k x0 x1 (⟨#[]⟩ : ByteArray) 0)
def spec_ChunkText.l0 : Nat → ByteArray → Int → ByteArray → Int → Option (ByteArray)
  | 0, _, _, _, _ => none
  | k + 1, x0, x1, x5, x6 => if x6 < (x0.size : Int) then (if (wrap64 ((x0.size : Int) - x6)) > x1 then ((spec_HexText.f k x1).bind fun t102 => (if x5.size + t102.size ≤ 9223372036854775807 then (if (x5 ++ t102).size + 2 ≤ 9223372036854775807 then (if 0 ≤ x6 then (if x6 ≤ (wrap64 (x6 + x1)) then (if (wrap64 (x6 + x1)) ≤ (x0.size : Int) then (if ((x5 ++ t102) ++ (⟨#[13, 10]⟩ : ByteArray)).size + (x0.extract (x6 : Int).toNat ((wrap64 (x6 + x1)) : Int).toNat).size ≤ 9223372036854775807 then (if (((x5 ++ t102) ++ (⟨#[13, 10]⟩ : ByteArray)) ++ (x0.extract (x6 : Int).toNat ((wrap64 (x6 + x1)) : Int).toNat)).size + 2 ≤ 9223372036854775807 then (spec_ChunkText.l0 k x0 x1 ((((x5 ++ t102) ++ (⟨#[13, 10]⟩ : ByteArray)) ++ (x0.extract (x6 : Int).toNat ((wrap64 (x6 + x1)) : Int).toNat)) ++ (⟨#[13, 10]⟩ : ByteArray)) (wrap64 (x6 + x1))) else (none)) else (none)) else (none)) else (none)) else (none)) else (none)) else (none))) else ((spec_HexText.f k (wrap64 ((x0.size : Int) - x6))).bind fun t103 => (if x5.size + t103.size ≤ 9223372036854775807 then (if (x5 ++ t103).size + 2 ≤ 9223372036854775807 then (if 0 ≤ x6 then (if x6 ≤ (wrap64 (x6 + (wrap64 ((x0.size : Int) - x6)))) then (if (wrap64 (x6 + (wrap64 ((x0.size : Int) - x6)))) ≤ (x0.size : Int) then (if ((x5 ++ t103) ++ (⟨#[13, 10]⟩ : ByteArray)).size + (x0.extract (x6 : Int).toNat ((wrap64 (x6 + (wrap64 ((x0.size : Int) - x6)))) : Int).toNat).size ≤ 9223372036854775807 then (if (((x5 ++ t103) ++ (⟨#[13, 10]⟩ : ByteArray)) ++ (x0.extract (x6 : Int).toNat ((wrap64 (x6 + (wrap64 ((x0.size : Int) - x6)))) : Int).toNat)).size + 2 ≤ 9223372036854775807 then (spec_ChunkText.l0 k x0 x1 ((((x5 ++ t103) ++ (⟨#[13, 10]⟩ : ByteArray)) ++ (x0.extract (x6 : Int).toNat ((wrap64 (x6 + (wrap64 ((x0.size : Int) - x6)))) : Int).toNat)) ++ (⟨#[13, 10]⟩ : ByteArray)) (wrap64 (x6 + x1))) else (none)) else (none)) else (none)) else (none)) else (none)) else (none)) else (none)))) else (if x5.size + 5 ≤ 9223372036854775807 then (some (x5 ++ (⟨#[48, 13, 10, 13, 10]⟩ : ByteArray))) else (none))
end
def spec_ChunkText.f (k : Nat) (a0 : ByteArray) (a1 : Int) : Option (ByteArray) := if (a0.size : Int) > 600 then (spec_ChunkText.j0 k a0 a1 true) else (if a1 < 1 then (spec_ChunkText.j0 k a0 a1 true) else (spec_ChunkText.j0 k a0 a1 (decide (a1 > 600))))
theorem spec_ChunkText.mono_l : ∀ k, (∀ y0 y1 y2, LeO (spec_ChunkText.j0 k y0 y1 y2) (spec_ChunkText.j0 (k + 1) y0 y1 y2)) ∧ (∀ y0 y1 y2 y3, LeO (spec_ChunkText.l0 k y0 y1 y2 y3) (spec_ChunkText.l0 (k + 1) y0 y1 y2 y3))
  | 0 => ⟨fun _ _ _ r h => by simp [spec_ChunkText.j0] at h, fun _ _ _ _ r h => by simp [spec_ChunkText.l0] at h⟩
  | k + 1 => by
    obtain ⟨ih0, ih1⟩ := spec_ChunkText.mono_l k
    refine ⟨?_, ?_⟩
    · intro y0 y1 y2
      unfold spec_ChunkText.j0
      repeat' first
      | (with_reducible exact ih0 _ _ _)
      | (with_reducible exact ih1 _ _ _ _)
      | (with_reducible exact spec_HexText.mono _ _)
      | (with_reducible exact LeO.refl _)
      | (with_reducible exact LeO.none _)
      | (with_reducible refine LeO.ite ?_ ?_)
      | (with_reducible refine LeO.bind ?_ (fun _ => ?_))
      | exact ih0 _ _ _
      | exact ih1 _ _ _ _
      | exact spec_HexText.mono _ _
      | exact LeO.none _
      | refine LeO.ite ?_ ?_
      | refine LeO.bind ?_ (fun _ => ?_)
    · intro y0 y1 y2 y3
      unfold spec_ChunkText.l0
      repeat' first
      | (with_reducible exact ih0 _ _ _)
      | (with_reducible exact ih1 _ _ _ _)
      | (with_reducible exact spec_HexText.mono _ _)
      | (with_reducible exact LeO.refl _)
      | (with_reducible exact LeO.none _)
      | (with_reducible refine LeO.ite ?_ ?_)
      | (with_reducible refine LeO.bind ?_ (fun _ => ?_))
      | exact ih0 _ _ _
      | exact ih1 _ _ _ _
      | exact spec_HexText.mono _ _
      | exact LeO.none _
      | refine LeO.ite ?_ ?_
      | refine LeO.bind ?_ (fun _ => ?_)
theorem spec_ChunkText.mono : ∀ a0 a1 k, LeO (spec_ChunkText.f k a0 a1) (spec_ChunkText.f (k + 1) a0 a1) := by
  intro a0 a1 k
  obtain ⟨ih0, ih1⟩ := spec_ChunkText.mono_l k
  unfold spec_ChunkText.f
  repeat' first
      | (with_reducible exact ih0 _ _ _)
      | (with_reducible exact ih1 _ _ _ _)
      | (with_reducible exact spec_HexText.mono _ _)
      | (with_reducible exact LeO.refl _)
      | (with_reducible exact LeO.none _)
      | (with_reducible refine LeO.ite ?_ ?_)
      | (with_reducible refine LeO.bind ?_ (fun _ => ?_))
      | exact ih0 _ _ _
      | exact ih1 _ _ _ _
      | exact spec_HexText.mono _ _
      | exact LeO.none _
      | refine LeO.ite ?_ ?_
      | refine LeO.bind ?_ (fun _ => ?_)
set_option maxHeartbeats 8000000 in
set_option maxRecDepth 100000 in
theorem spec_ChunkText.calls (k : Nat) (a0 : ByteArray) (a1 : Int) (r : ByteArray) (w : World) (h : spec_ChunkText.f k a0 a1 = some r) :
    Calls Tryd.prog 10 #[.string a0, .int .i64 a1] w fun e w' => e = .returned (.string r) ∧ Drawn0 w w' := by
  have hi64_ : ∀ x_ : Int, IntKind.i64.wrap x_ = wrap64 x_ := i64_w
  have H : (if (a0.size : Int) > 600 then (spec_ChunkText.j0 k a0 a1 true) else (if a1 < 1 then (spec_ChunkText.j0 k a0 a1 true) else (spec_ChunkText.j0 k a0 a1 (decide (a1 > 600))))) = some r := h
  clear h
  have HC3 := Aside0.mk H
  clear H
  go_enter Tryd.func10, Tryd.ntmps10
  go_upto_region 1 with (fail)
  repeat (go_quiet (fail); go_upto_region 1 with (fail))
  go_cut [18] (fun v18 wc => ∃ (kq : Nat) (x18_2 : Bool), v18 = .bool x18_2 ∧ Aside0 (spec_ChunkText.j0 kq a0 a1 x18_2 = some r) ∧ Aside0 (kq ≤ k) ∧ Drawn0 w wc)
  case first =>
    have H := HC3.out
    clear HC3
    by_cases c4 : (a0.size : Int) > 600
    · rw [if_pos c4] at H
      have c4b0 : decide (600 < (a0.size : Int)) = true := decide_eq_true c4
      have c4b1 : decide (600 < a0.size) = true := decide_eq_true (by omega)
      clear c4
      (first | rw [c4b0] | (simp only [i64_w, i32_w]; rw [c4b0]) | skip)
      have H' := Aside0.mk H
      clear H
      go_wp2
      repeat (go_quiet (fail); try go_wp2)
      go_meet
      case rel => exact ⟨_, (true), (by first | rfl | (simp; done) | (simp [*]; done)), H', ⟨by first | omega | exact Nat.le_refl _⟩, by repeat (first | exact Drawn0.refl _ | apply Drawn0.step)⟩
    · rw [if_neg c4] at H
      have c4b0 : decide (600 < (a0.size : Int)) = false := decide_eq_false c4
      have c4b1 : decide (600 < a0.size) = false := decide_eq_false (by omega)
      clear c4
      (first | rw [c4b0] | (simp only [i64_w, i32_w]; rw [c4b0]) | skip)
      by_cases c5 : a1 < 1
      · rw [if_pos c5] at H
        have c5b0 : decide (a1 < 1) = true := decide_eq_true c5
        clear c5
        have H' := Aside0.mk H
        clear H
        go_wp2
        repeat (go_quiet (fail); try go_wp2)
        go_meet
        case rel => exact ⟨_, (true), (by first | rfl | (simp; done) | (simp [*]; done)), H', ⟨by first | omega | exact Nat.le_refl _⟩, by repeat (first | exact Drawn0.refl _ | apply Drawn0.step)⟩
      · rw [if_neg c5] at H
        have c5b0 : decide (a1 < 1) = false := decide_eq_false c5
        clear c5
        have H' := Aside0.mk H
        clear H
        go_wp2
        repeat (go_quiet (fail); try go_wp2)
        go_meet
        case rel => exact ⟨_, (decide (a1 > 600)), (by first | rfl | (simp; done) | (simp [*]; done)), H', ⟨by first | omega | exact Nat.le_refl _⟩, by repeat (first | exact Drawn0.refl _ | apply Drawn0.step)⟩
  case rest =>
    clear HC3
    try clear c1
    try clear p2
    try clear c4
    try clear c4b0
    try clear c4b1
    try clear c5
    try clear c5b0
    obtain ⟨kq, x18_2, rfl, HA, HJ2, ⟨mc2, rfl⟩⟩ := hcut
    cases kq with
    | zero => exact absurd HA.out (by simp [spec_ChunkText.j0])
    | succ kj2 =>
      have H := HA.out
      clear HA
      simp only [spec_ChunkText.j0] at H
      by_cases c6 : x18_2 = true
      · subst c6
        have H1 : (some (⟨#[]⟩ : ByteArray)) = some r := by rw [if_pos rfl] at H; exact H
        clear H
        have H := H1
        clear H1
        obtain rfl := Option.some.inj H
        go_wp2
        repeat (go_quiet (fail); try go_wp2)
        go_ret
        exact ⟨by first | rfl | (simp; done) | (simp [*]; done), by repeat (first | exact Drawn0.refl _ | apply Drawn0.step)⟩
      · replace c6 := Bool.eq_false_iff.mpr c6
        subst c6
        have H1 : (spec_ChunkText.l0 kj2 a0 a1 (⟨#[]⟩ : ByteArray) 0) = some r := by rw [if_neg (show ¬ (false = true) by decide)] at H; exact H
        clear H
        have H := H1
        clear H1
        have H' := Aside0.mk H
        clear H
        go_wp2
        repeat (go_quiet (fail); try go_wp2)
        go_loopg [5, 6] kj2 (fun kq v5 v6 w' => ∃ (x5_2 : ByteArray) (x6_2 : Int), v5 = .string x5_2 ∧ v6 = .int .i64 x6_2 ∧ Aside0 (spec_ChunkText.l0 kq a0 a1 x5_2 x6_2 = some r) ∧ Aside0 (kq ≤ kj2) ∧ Drawn0 w w')
        case atStart => exact ⟨((⟨#[]⟩ : ByteArray)), (0), (by first | rfl | (simp; done) | (simp [*]; done)), (by first | rfl | (simp; done) | (simp [*]; done)), H', ⟨Nat.le_refl _⟩, by repeat (first | exact Drawn0.refl _ | apply Drawn0.step)⟩
        case round =>
          clear H'
          try clear c1
          try clear c2
          try clear p2
          try clear c4
          try clear c4b0
          try clear c4b1
          try clear c5
          try clear c5b0
          try clear c6
          try clear p2
          obtain ⟨x5_2, x6_2, rfl, rfl, HA, HK2, ⟨m2, rfl⟩⟩ := hrel
          cases gk with
          | zero => exact absurd HA.out (by simp [spec_ChunkText.l0])
          | succ k2 =>
            have H := HA.out
            clear HA
            simp only [spec_ChunkText.l0] at H
            by_cases c7 : x6_2 < (a0.size : Int)
            · rw [if_pos c7] at H
              have c7b0 : decide (x6_2 < (a0.size : Int)) = true := decide_eq_true c7
              clear c7
              by_cases c8 : (wrap64 ((a0.size : Int) - x6_2)) > a1
              · rw [if_pos c8] at H
                have c8b0 : decide (a1 < (wrap64 ((a0.size : Int) - x6_2))) = true := decide_eq_true c8
                clear c8
                replace H := Option.bind_eq_some_iff.mp H
                obtain ⟨t102, A90, H⟩ := H
                replace H : (if x5_2.size + t102.size ≤ 9223372036854775807 then (if (x5_2 ++ t102).size + 2 ≤ 9223372036854775807 then (if 0 ≤ x6_2 then (if x6_2 ≤ (wrap64 (x6_2 + a1)) then (if (wrap64 (x6_2 + a1)) ≤ (a0.size : Int) then (if ((x5_2 ++ t102) ++ (⟨#[13, 10]⟩ : ByteArray)).size + (a0.extract (x6_2 : Int).toNat ((wrap64 (x6_2 + a1)) : Int).toNat).size ≤ 9223372036854775807 then (if (((x5_2 ++ t102) ++ (⟨#[13, 10]⟩ : ByteArray)) ++ (a0.extract (x6_2 : Int).toNat ((wrap64 (x6_2 + a1)) : Int).toNat)).size + 2 ≤ 9223372036854775807 then (spec_ChunkText.l0 k2 a0 a1 ((((x5_2 ++ t102) ++ (⟨#[13, 10]⟩ : ByteArray)) ++ (a0.extract (x6_2 : Int).toNat ((wrap64 (x6_2 + a1)) : Int).toNat)) ++ (⟨#[13, 10]⟩ : ByteArray)) (wrap64 (x6_2 + a1))) else (none)) else (none)) else (none)) else (none)) else (none)) else (none)) else (none)) = some r := H
                have A9 := Aside0.mk A90
                clear A90
                by_cases c10 : x5_2.size + t102.size ≤ 9223372036854775807
                · rw [if_pos c10] at H
                  have c10b0 := eq_true c10
                  have c10b1 : decide (x5_2.size + t102.size ≤ 9223372036854775807) = true := decide_eq_true c10
                  try have c10b2 : (9223372036854775807 < x5_2.size + t102.size) = False := eq_false (Nat.not_lt.2 c10)
                  by_cases c11 : (x5_2 ++ t102).size + 2 ≤ 9223372036854775807
                  · rw [if_pos c11] at H
                    have c11b0 := eq_true c11
                    have c11b1 : decide ((x5_2 ++ t102).size + 2 ≤ 9223372036854775807) = true := decide_eq_true c11
                    try have c11b2 : (9223372036854775807 < (x5_2 ++ t102).size + 2) = False := eq_false (Nat.not_lt.2 c11)
                    try have c11z := c11b2; simp only [ByteArray.size_append] at c11z; have c11b3 := c11z
                    by_cases c12 : 0 ≤ x6_2
                    · rw [if_pos c12] at H
                      have c12b0 := eq_true c12
                      have c12b1 : decide (0 ≤ x6_2) = true := decide_eq_true c12
                      clear c12
                      by_cases c13 : x6_2 ≤ (wrap64 (x6_2 + a1))
                      · rw [if_pos c13] at H
                        have c13b0 := eq_true c13
                        have c13b1 : decide (x6_2 ≤ (wrap64 (x6_2 + a1))) = true := decide_eq_true c13
                        by_cases c14 : (wrap64 (x6_2 + a1)) ≤ (a0.size : Int)
                        · rw [if_pos c14] at H
                          have c14b0 := eq_true c14
                          have c14b1 : decide ((wrap64 (x6_2 + a1)) ≤ (a0.size : Int)) = true := decide_eq_true c14
                          by_cases c15 : ((x5_2 ++ t102) ++ (⟨#[13, 10]⟩ : ByteArray)).size + (a0.extract (x6_2 : Int).toNat ((wrap64 (x6_2 + a1)) : Int).toNat).size ≤ 9223372036854775807
                          · rw [if_pos c15] at H
                            have c15b0 := eq_true c15
                            have c15b1 : decide (((x5_2 ++ t102) ++ (⟨#[13, 10]⟩ : ByteArray)).size + (a0.extract (x6_2 : Int).toNat ((wrap64 (x6_2 + a1)) : Int).toNat).size ≤ 9223372036854775807) = true := decide_eq_true c15
                            try have c15b2 : (9223372036854775807 < ((x5_2 ++ t102) ++ (⟨#[13, 10]⟩ : ByteArray)).size + (a0.extract (x6_2 : Int).toNat ((wrap64 (x6_2 + a1)) : Int).toNat).size) = False := eq_false (Nat.not_lt.2 c15)
                            try have c15z := c15b2; simp only [ByteArray.size_append, show (⟨#[13, 10]⟩ : ByteArray).size = 2 from rfl] at c15z; have c15b3 := c15z
                            try have c15y := c15b2; simp only [ByteArray.size_append, ByteArray.size_extract, show (⟨#[13, 10]⟩ : ByteArray).size = 2 from rfl] at c15y; have c15b4 := c15y
                            try have c15v := c15b2; simp only [ByteArray.size_append, ByteArray.size_extract, show (⟨#[13, 10]⟩ : ByteArray).size = 2 from rfl] at c15v; rw [Nat.min_eq_left (by omega)] at c15v; (try simp only [Nat.sub_zero] at c15v); have c15b5 := c15v
                            by_cases c16 : (((x5_2 ++ t102) ++ (⟨#[13, 10]⟩ : ByteArray)) ++ (a0.extract (x6_2 : Int).toNat ((wrap64 (x6_2 + a1)) : Int).toNat)).size + 2 ≤ 9223372036854775807
                            · rw [if_pos c16] at H
                              have c16b0 := eq_true c16
                              have c16b1 : decide ((((x5_2 ++ t102) ++ (⟨#[13, 10]⟩ : ByteArray)) ++ (a0.extract (x6_2 : Int).toNat ((wrap64 (x6_2 + a1)) : Int).toNat)).size + 2 ≤ 9223372036854775807) = true := decide_eq_true c16
                              try have c16b2 : (9223372036854775807 < (((x5_2 ++ t102) ++ (⟨#[13, 10]⟩ : ByteArray)) ++ (a0.extract (x6_2 : Int).toNat ((wrap64 (x6_2 + a1)) : Int).toNat)).size + 2) = False := eq_false (Nat.not_lt.2 c16)
                              try have c16z := c16b2; simp only [ByteArray.size_append, show (⟨#[13, 10]⟩ : ByteArray).size = 2 from rfl] at c16z; have c16b3 := c16z
                              try have c16y := c16b2; simp only [ByteArray.size_append, ByteArray.size_extract, show (⟨#[13, 10]⟩ : ByteArray).size = 2 from rfl] at c16y; have c16b4 := c16y
                              try have c16v := c16b2; simp only [ByteArray.size_append, ByteArray.size_extract, show (⟨#[13, 10]⟩ : ByteArray).size = 2 from rfl] at c16v; rw [Nat.min_eq_left (by omega)] at c16v; (try simp only [Nat.sub_zero] at c16v); have c16b5 := c16v
                              have H' := Aside0.mk H
                              clear H
                              go_wp2_with (first | (go_at_call 29; (with_reducible refine (spec_HexText.calls k2 a1 t102 _ A9.out).mono ?_); rintro e w' ⟨rfl, ⟨nd, rfl⟩⟩; (try first | exact ⟨rfl, _, World.drewN_drewN _ _ _⟩ | exact ⟨rfl, _, Eq.trans (World.drewN_drewN _ _ _) (congrArg (World.drewN _) (Nat.add_assoc _ _ _))⟩)))
                              repeat (go_quiet (first | (go_at_call 29; (with_reducible refine (spec_HexText.calls k2 a1 t102 _ A9.out).mono ?_); rintro e w' ⟨rfl, ⟨nd, rfl⟩⟩; (try first | exact ⟨rfl, _, World.drewN_drewN _ _ _⟩ | exact ⟨rfl, _, Eq.trans (World.drewN_drewN _ _ _) (congrArg (World.drewN _) (Nat.add_assoc _ _ _))⟩))); try go_wp2_with (first | (go_at_call 29; (with_reducible refine (spec_HexText.calls k2 a1 t102 _ A9.out).mono ?_); rintro e w' ⟨rfl, ⟨nd, rfl⟩⟩; (try first | exact ⟨rfl, _, World.drewN_drewN _ _ _⟩ | exact ⟨rfl, _, Eq.trans (World.drewN_drewN _ _ _) (congrArg (World.drewN _) (Nat.add_assoc _ _ _))⟩))))
                              go_roundg k2
                              case measure => have := HJ2.out; have := HK2.out; omega
                              case rel => exact ⟨((((x5_2 ++ t102) ++ (⟨#[13, 10]⟩ : ByteArray)) ++ (a0.extract (x6_2 : Int).toNat ((wrap64 (x6_2 + a1)) : Int).toNat)) ++ (⟨#[13, 10]⟩ : ByteArray)), (wrap64 (x6_2 + a1)), (by first | rfl | (simp; done) | (simp [*]; done)), (by first | rfl | (simp; done) | (simp [*]; done)), H', ⟨by have := HJ2.out; have := HK2.out; omega⟩, by repeat (first | exact Drawn0.refl _ | apply Drawn0.step)⟩
                            · rw [if_neg c16] at H
                              exact absurd H (by simp)
                          · rw [if_neg c15] at H
                            exact absurd H (by simp)
                        · rw [if_neg c14] at H
                          exact absurd H (by simp)
                      · rw [if_neg c13] at H
                        exact absurd H (by simp)
                    · rw [if_neg c12] at H
                      exact absurd H (by simp)
                  · rw [if_neg c11] at H
                    exact absurd H (by simp)
                · rw [if_neg c10] at H
                  exact absurd H (by simp)
              · rw [if_neg c8] at H
                have c8b0 : decide (a1 < (wrap64 ((a0.size : Int) - x6_2))) = false := decide_eq_false c8
                clear c8
                replace H := Option.bind_eq_some_iff.mp H
                obtain ⟨t103, A170, H⟩ := H
                replace H : (if x5_2.size + t103.size ≤ 9223372036854775807 then (if (x5_2 ++ t103).size + 2 ≤ 9223372036854775807 then (if 0 ≤ x6_2 then (if x6_2 ≤ (wrap64 (x6_2 + (wrap64 ((a0.size : Int) - x6_2)))) then (if (wrap64 (x6_2 + (wrap64 ((a0.size : Int) - x6_2)))) ≤ (a0.size : Int) then (if ((x5_2 ++ t103) ++ (⟨#[13, 10]⟩ : ByteArray)).size + (a0.extract (x6_2 : Int).toNat ((wrap64 (x6_2 + (wrap64 ((a0.size : Int) - x6_2)))) : Int).toNat).size ≤ 9223372036854775807 then (if (((x5_2 ++ t103) ++ (⟨#[13, 10]⟩ : ByteArray)) ++ (a0.extract (x6_2 : Int).toNat ((wrap64 (x6_2 + (wrap64 ((a0.size : Int) - x6_2)))) : Int).toNat)).size + 2 ≤ 9223372036854775807 then (spec_ChunkText.l0 k2 a0 a1 ((((x5_2 ++ t103) ++ (⟨#[13, 10]⟩ : ByteArray)) ++ (a0.extract (x6_2 : Int).toNat ((wrap64 (x6_2 + (wrap64 ((a0.size : Int) - x6_2)))) : Int).toNat)) ++ (⟨#[13, 10]⟩ : ByteArray)) (wrap64 (x6_2 + a1))) else (none)) else (none)) else (none)) else (none)) else (none)) else (none)) else (none)) = some r := H
                have A17 := Aside0.mk A170
                clear A170
                by_cases c18 : x5_2.size + t103.size ≤ 9223372036854775807
                · rw [if_pos c18] at H
                  have c18b0 := eq_true c18
                  have c18b1 : decide (x5_2.size + t103.size ≤ 9223372036854775807) = true := decide_eq_true c18
                  try have c18b2 : (9223372036854775807 < x5_2.size + t103.size) = False := eq_false (Nat.not_lt.2 c18)
                  by_cases c19 : (x5_2 ++ t103).size + 2 ≤ 9223372036854775807
                  · rw [if_pos c19] at H
                    have c19b0 := eq_true c19
                    have c19b1 : decide ((x5_2 ++ t103).size + 2 ≤ 9223372036854775807) = true := decide_eq_true c19
                    try have c19b2 : (9223372036854775807 < (x5_2 ++ t103).size + 2) = False := eq_false (Nat.not_lt.2 c19)
                    try have c19z := c19b2; simp only [ByteArray.size_append] at c19z; have c19b3 := c19z
                    by_cases c20 : 0 ≤ x6_2
                    · rw [if_pos c20] at H
                      have c20b0 := eq_true c20
                      have c20b1 : decide (0 ≤ x6_2) = true := decide_eq_true c20
                      clear c20
                      by_cases c21 : x6_2 ≤ (wrap64 (x6_2 + (wrap64 ((a0.size : Int) - x6_2))))
                      · rw [if_pos c21] at H
                        have c21b0 := eq_true c21
                        have c21b1 : decide (x6_2 ≤ (wrap64 (x6_2 + (wrap64 ((a0.size : Int) - x6_2))))) = true := decide_eq_true c21
                        by_cases c22 : (wrap64 (x6_2 + (wrap64 ((a0.size : Int) - x6_2)))) ≤ (a0.size : Int)
                        · rw [if_pos c22] at H
                          have c22b0 := eq_true c22
                          have c22b1 : decide ((wrap64 (x6_2 + (wrap64 ((a0.size : Int) - x6_2)))) ≤ (a0.size : Int)) = true := decide_eq_true c22
                          by_cases c23 : ((x5_2 ++ t103) ++ (⟨#[13, 10]⟩ : ByteArray)).size + (a0.extract (x6_2 : Int).toNat ((wrap64 (x6_2 + (wrap64 ((a0.size : Int) - x6_2)))) : Int).toNat).size ≤ 9223372036854775807
                          · rw [if_pos c23] at H
                            have c23b0 := eq_true c23
                            have c23b1 : decide (((x5_2 ++ t103) ++ (⟨#[13, 10]⟩ : ByteArray)).size + (a0.extract (x6_2 : Int).toNat ((wrap64 (x6_2 + (wrap64 ((a0.size : Int) - x6_2)))) : Int).toNat).size ≤ 9223372036854775807) = true := decide_eq_true c23
                            try have c23b2 : (9223372036854775807 < ((x5_2 ++ t103) ++ (⟨#[13, 10]⟩ : ByteArray)).size + (a0.extract (x6_2 : Int).toNat ((wrap64 (x6_2 + (wrap64 ((a0.size : Int) - x6_2)))) : Int).toNat).size) = False := eq_false (Nat.not_lt.2 c23)
                            try have c23z := c23b2; simp only [ByteArray.size_append, show (⟨#[13, 10]⟩ : ByteArray).size = 2 from rfl] at c23z; have c23b3 := c23z
                            try have c23y := c23b2; simp only [ByteArray.size_append, ByteArray.size_extract, show (⟨#[13, 10]⟩ : ByteArray).size = 2 from rfl] at c23y; have c23b4 := c23y
                            try have c23v := c23b2; simp only [ByteArray.size_append, ByteArray.size_extract, show (⟨#[13, 10]⟩ : ByteArray).size = 2 from rfl] at c23v; rw [Nat.min_eq_left (by omega)] at c23v; (try simp only [Nat.sub_zero] at c23v); have c23b5 := c23v
                            by_cases c24 : (((x5_2 ++ t103) ++ (⟨#[13, 10]⟩ : ByteArray)) ++ (a0.extract (x6_2 : Int).toNat ((wrap64 (x6_2 + (wrap64 ((a0.size : Int) - x6_2)))) : Int).toNat)).size + 2 ≤ 9223372036854775807
                            · rw [if_pos c24] at H
                              have c24b0 := eq_true c24
                              have c24b1 : decide ((((x5_2 ++ t103) ++ (⟨#[13, 10]⟩ : ByteArray)) ++ (a0.extract (x6_2 : Int).toNat ((wrap64 (x6_2 + (wrap64 ((a0.size : Int) - x6_2)))) : Int).toNat)).size + 2 ≤ 9223372036854775807) = true := decide_eq_true c24
                              try have c24b2 : (9223372036854775807 < (((x5_2 ++ t103) ++ (⟨#[13, 10]⟩ : ByteArray)) ++ (a0.extract (x6_2 : Int).toNat ((wrap64 (x6_2 + (wrap64 ((a0.size : Int) - x6_2)))) : Int).toNat)).size + 2) = False := eq_false (Nat.not_lt.2 c24)
                              try have c24z := c24b2; simp only [ByteArray.size_append, show (⟨#[13, 10]⟩ : ByteArray).size = 2 from rfl] at c24z; have c24b3 := c24z
                              try have c24y := c24b2; simp only [ByteArray.size_append, ByteArray.size_extract, show (⟨#[13, 10]⟩ : ByteArray).size = 2 from rfl] at c24y; have c24b4 := c24y
                              try have c24v := c24b2; simp only [ByteArray.size_append, ByteArray.size_extract, show (⟨#[13, 10]⟩ : ByteArray).size = 2 from rfl] at c24v; rw [Nat.min_eq_left (by omega)] at c24v; (try simp only [Nat.sub_zero] at c24v); have c24b5 := c24v
                              have H' := Aside0.mk H
                              clear H
                              go_wp2_with (first | (go_at_call 29; (with_reducible refine (spec_HexText.calls k2 (wrap64 ((a0.size : Int) - x6_2)) t103 _ A17.out).mono ?_); rintro e w' ⟨rfl, ⟨nd, rfl⟩⟩; (try first | exact ⟨rfl, _, World.drewN_drewN _ _ _⟩ | exact ⟨rfl, _, Eq.trans (World.drewN_drewN _ _ _) (congrArg (World.drewN _) (Nat.add_assoc _ _ _))⟩)))
                              repeat (go_quiet (first | (go_at_call 29; (with_reducible refine (spec_HexText.calls k2 (wrap64 ((a0.size : Int) - x6_2)) t103 _ A17.out).mono ?_); rintro e w' ⟨rfl, ⟨nd, rfl⟩⟩; (try first | exact ⟨rfl, _, World.drewN_drewN _ _ _⟩ | exact ⟨rfl, _, Eq.trans (World.drewN_drewN _ _ _) (congrArg (World.drewN _) (Nat.add_assoc _ _ _))⟩))); try go_wp2_with (first | (go_at_call 29; (with_reducible refine (spec_HexText.calls k2 (wrap64 ((a0.size : Int) - x6_2)) t103 _ A17.out).mono ?_); rintro e w' ⟨rfl, ⟨nd, rfl⟩⟩; (try first | exact ⟨rfl, _, World.drewN_drewN _ _ _⟩ | exact ⟨rfl, _, Eq.trans (World.drewN_drewN _ _ _) (congrArg (World.drewN _) (Nat.add_assoc _ _ _))⟩))))
                              go_roundg k2
                              case measure => have := HJ2.out; have := HK2.out; omega
                              case rel => exact ⟨((((x5_2 ++ t103) ++ (⟨#[13, 10]⟩ : ByteArray)) ++ (a0.extract (x6_2 : Int).toNat ((wrap64 (x6_2 + (wrap64 ((a0.size : Int) - x6_2)))) : Int).toNat)) ++ (⟨#[13, 10]⟩ : ByteArray)), (wrap64 (x6_2 + a1)), (by first | rfl | (simp; done) | (simp [*]; done)), (by first | rfl | (simp; done) | (simp [*]; done)), H', ⟨by have := HJ2.out; have := HK2.out; omega⟩, by repeat (first | exact Drawn0.refl _ | apply Drawn0.step)⟩
                            · rw [if_neg c24] at H
                              exact absurd H (by simp)
                          · rw [if_neg c23] at H
                            exact absurd H (by simp)
                        · rw [if_neg c22] at H
                          exact absurd H (by simp)
                      · rw [if_neg c21] at H
                        exact absurd H (by simp)
                    · rw [if_neg c20] at H
                      exact absurd H (by simp)
                  · rw [if_neg c19] at H
                    exact absurd H (by simp)
                · rw [if_neg c18] at H
                  exact absurd H (by simp)
            · rw [if_neg c7] at H
              have c7b0 : decide (x6_2 < (a0.size : Int)) = false := decide_eq_false c7
              clear c7
              by_cases c25 : x5_2.size + 5 ≤ 9223372036854775807
              · rw [if_pos c25] at H
                have c25b0 := eq_true c25
                have c25b1 : decide (x5_2.size + 5 ≤ 9223372036854775807) = true := decide_eq_true c25
                try have c25b2 : (9223372036854775807 < x5_2.size + 5) = False := eq_false (Nat.not_lt.2 c25)
                obtain rfl := Option.some.inj H
                go_wp2
                repeat (go_quiet (fail); try go_wp2)
                go_ret
                exact ⟨by first | rfl | (simp; done) | (simp [*]; done), by repeat (first | exact Drawn0.refl _ | apply Drawn0.step)⟩
              · rw [if_neg c25] at H
                exact absurd H (by simp)

/-! ### impl_within: function 30 -/
def impl_within.f (a0 : Int) (a1 : Int) (a2 : Int) : Option (Bool) := if a1 ≤ a0 then (some (decide (a0 ≤ a2))) else (some false)
set_option maxHeartbeats 8000000 in
set_option maxRecDepth 100000 in
theorem impl_within.calls (a0 : Int) (a1 : Int) (a2 : Int) (r : Bool) (w : World) (h : impl_within.f a0 a1 a2 = some r) :
    Calls Tryd.prog 30 #[.int .i64 a0, .int .i64 a1, .int .i64 a2] w fun e w' => e = .returned (.bool r) ∧ Drawn0 w w' := by
  have H : (if a1 ≤ a0 then (some (decide (a0 ≤ a2))) else (some false)) = some r := h
  clear h
  by_cases c4 : a1 ≤ a0
  · rw [if_pos c4] at H
    have c4b0 : decide (a1 ≤ a0) = true := decide_eq_true c4
    clear c4
    obtain rfl := Option.some.inj H
    go_enter Tryd.func30, Tryd.ntmps30
    go_wp2
    go_ret
    exact ⟨by first | rfl | (simp; done) | (simp [*]; done), by repeat (first | exact Drawn0.refl _ | apply Drawn0.step)⟩
  · rw [if_neg c4] at H
    have c4b0 : decide (a1 ≤ a0) = false := decide_eq_false c4
    clear c4
    obtain rfl := Option.some.inj H
    go_enter Tryd.func30, Tryd.ntmps30
    go_wp2
    go_ret
    exact ⟨by first | rfl | (simp; done) | (simp [*]; done), by repeat (first | exact Drawn0.refl _ | apply Drawn0.step)⟩

/-! ### strconv_FormatInt: function 71 -/
set_option maxHeartbeats 4000000 in
set_option maxRecDepth 100000 in
theorem strconv_FormatInt_tz64 (w : World) (h : w.cell? ⟨7, 15, none⟩ = some (.int .u8 4)) :
    Calls Tryd.prog 172 #[.int .u64 16] w fun e w' => e = .returned (.int .i64 4) ∧ w' = w := by
  have hA : IntKind.u64.wrap (-16) = 18446744073709551600 := by decide +kernel
  have hB : bits .and .u64 16 18446744073709551600 = 16 := by decide +kernel
  have hC : IntKind.u64.wrap (16 * 285870213051353865) = 4573923408821661840 := by decide +kernel
  have hD : (4573923408821661840 : Int) / 288230376151711744 = 15 := by decide +kernel
  go_enter Tryd.func172, Tryd.ntmps172
  go_wp2
  all_goals (try (simp only [hA, hB, hC, hD] at *))
  go_ret
  exact ⟨rfl, rfl⟩
set_option maxHeartbeats 4000000 in
set_option maxRecDepth 100000 in
theorem strconv_FormatInt_pow2 (w : World) : Calls Tryd.prog 163 #[.int .i64 16] w fun e w' => e = .returned (.bool true) ∧ w' = w := by
  have hA : bits .and .i64 16 15 = 0 := by decide +kernel
  go_enter Tryd.func163, Tryd.ntmps163
  go_wp2
  go_ret
  exact ⟨by simp [hA], rfl⟩
set_option maxHeartbeats 4000000 in
set_option maxRecDepth 100000 in
theorem strconv_FormatInt_tz (w : World) (h : w.cell? ⟨7, 15, none⟩ = some (.int .u8 4)) :
    Calls Tryd.prog 164 #[.int .u64 16] w fun e w' => e = .returned (.int .i64 4) ∧ w' = w := by
  go_enter Tryd.func164, Tryd.ntmps164
  go_wp2_with (go_at_call 172; refine (strconv_FormatInt_tz64 _ h).mono ?_; rintro e w' ⟨rfl, rfl⟩)
  go_ret
  exact ⟨rfl, rfl⟩
/-- Block b, 65 bytes: from place i on it holds ds. -/
def HRow (w : World) (b i : Nat) (ds : List Int) : Prop := ∃ cs : Array Value, w.heap[b]? = some (.cells cs 128 (0, 0)) ∧ cs.size = 65 ∧ i + ds.length = 65 ∧ ∀ (t : Nat) (x : Int), ds[t]? = some x → cs[i + t]? = some (Value.int .u8 x)
theorem HRow.cell {w : World} {b i : Nat} {ds : List Int} (h : HRow w b i ds) (j : Nat) (hj : j < 65) : ∃ v, w.cell? ⟨b, j, none⟩ = some v := by
  obtain ⟨cs, h0, h1, _, _⟩ := h
  exact ⟨cs[j]'(by omega), by simp [World.cell?, h0, h1, hj]⟩
theorem HRow.frozen {w : World} {b i : Nat} {ds : List Int} (h : HRow w b i ds) (j : Nat) : w.frozen? ⟨b, j, none⟩ = false := by
  obtain ⟨cs, h0, _⟩ := h
  simp [World.frozen?, h0]
theorem HRow.push {w : World} {b i : Nat} {ds : List Int} (h : HRow w b (i + 1) ds) (x : Int) : HRow (w.setCell ⟨b, i, none⟩ (.int .u8 x)) b i (x :: ds) := by
  obtain ⟨cs, h0, h1, h2, h3⟩ := h
  refine ⟨cs.setIfInBounds i (.int .u8 x), by simp [World.setCell, Array.getElem?_modify, h0], by simpa using h1, by simp; omega, fun t y hy => ?_⟩
  cases t with
  | zero =>
    simp at hy; subst hy
    rw [Nat.add_zero, Array.getElem?_setIfInBounds_self_of_lt (by omega)]
  | succ t =>
    rw [Array.getElem?_setIfInBounds_ne (by omega), show i + (t + 1) = i + 1 + t by omega]
    exact h3 t y (by simpa using hy)
theorem HRow.string {P : Program} {w : World} {b i : Nat} {ds : List Int} {src dst e : TypeId} (hs : P.underlying src = some (.slice e)) (he : P.underlying e = some (.int .u8)) (hd : P.underlying dst = some .string) (h : HRow w b i ds) (n c : Nat) (hn : n = ds.length) :
    (convert src dst (.slice (some ⟨b, i, none⟩) n c)).run P w = .ok (.string (strOfNums ds)) w := by
  obtain ⟨cs, h0, h1, h2, h3⟩ := h
  refine run_convert_bytes_arg w src e hs he b i n c ds hn.symm (fun j hj => ?_) dst hd
  have : ds[j]? = some (ds.getD j 0) := by rw [List.getD_eq_getElem?_getD, List.getElem?_eq_getElem (by omega)]; rfl
  simp [World.cell?, h0, h3 j _ this]
def hxI (d : Nat) : Int := if d < 10 then 48 + d else 87 + d
def hexI (n : Nat) : List Int := if n < 16 then [hxI n] else hexI (n / 16) ++ [hxI (n % 16)]
termination_by n
decreasing_by omega
theorem hexI_small {n : Nat} (h : n < 16) : hexI n = [hxI n] := by rw [hexI, if_pos h]
theorem hexI_big {n : Nat} (h : ¬ n < 16) : hexI n = hexI (n / 16) ++ [hxI (n % 16)] := by rw [hexI, if_neg h]
theorem strconv_FormatInt_hx_at : ∀ (d : Nat), d < 16 → ∀ (h : d < (⟨#[48, 49, 50, 51, 52, 53, 54, 55, 56, 57, 97, 98, 99, 100, 101, 102, 103, 104, 105, 106, 107, 108, 109, 110, 111, 112, 113, 114, 115, 116, 117, 118, 119, 120, 121, 122]⟩ : ByteArray).size), (((⟨#[48, 49, 50, 51, 52, 53, 54, 55, 56, 57, 97, 98, 99, 100, 101, 102, 103, 104, 105, 106, 107, 108, 109, 110, 111, 112, 113, 114, 115, 116, 117, 118, 119, 120, 121, 122]⟩ : ByteArray)[d]'h).toNat : Int) = hxI d := by
  intro d hd
  have hc : ∀ e : Fin 16, ∀ (h : e.1 < (⟨#[48, 49, 50, 51, 52, 53, 54, 55, 56, 57, 97, 98, 99, 100, 101, 102, 103, 104, 105, 106, 107, 108, 109, 110, 111, 112, 113, 114, 115, 116, 117, 118, 119, 120, 121, 122]⟩ : ByteArray).size), (((⟨#[48, 49, 50, 51, 52, 53, 54, 55, 56, 57, 97, 98, 99, 100, 101, 102, 103, 104, 105, 106, 107, 108, 109, 110, 111, 112, 113, 114, 115, 116, 117, 118, 119, 120, 121, 122]⟩ : ByteArray)[e.1]'h).toNat : Int) = hxI e.1 := by decide +kernel
  exact hc ⟨d, hd⟩
set_option maxHeartbeats 8000000 in
set_option maxRecDepth 100000 in
theorem strconv_FormatInt_fbits (n : Nat) (hn : n < 268435456) (w : World) (h : w.cell? ⟨7, 15, none⟩ = some (.int .u8 4)) :
    Calls Tryd.prog 140 #[.slice none 0 0, .int .u64 n, .int .i64 16, .bool false, .bool false] w fun e w' => e = .returned (.tuple #[.slice none 0 0, .string (strOfNums (hexI n))]) ∧ Below w.heap.size w w' := by
  have h1 := fun o => ((below_alloc (Below.refl w.heap.size w) o).cell (World.block_lt_of_cell? w _ h)).trans h
  have H1 := Aside0.mk h1
  clear h1
  go_enter Tryd.func140, Tryd.ntmps140
  go_wp2_with (first | (go_at_call 163; refine (strconv_FormatInt_pow2 _).mono ?_; rintro e w1 ⟨rfl, rfl⟩) | (go_at_call 164; refine (strconv_FormatInt_tz _ (H1.out _)).mono ?_; rintro e w2 ⟨rfl, rfl⟩))
  go_loopg [1, 13] (n + 1) (fun kq v1 v13 w' => ∃ (u i : Nat), v1 = .int .u64 (u : Int) ∧ v13 = .int .i64 (i : Int) ∧ Aside0 (∃ ds, kq = u + 1 ∧ u ≤ n ∧ (u < 16 → 1 ≤ i) ∧ (16 ≤ u → 2 ≤ i) ∧ i ≤ 65 ∧ HRow w' w.heap.size i ds ∧ hexI n = hexI u ++ ds ∧ (u < 16 ^ (i - 57))) ∧ Aside0 (Below w.heap.size w w'))
  case atStart =>
    refine ⟨n, 65, rfl, rfl, ⟨[], rfl, Nat.le_refl _, fun _ => by omega, fun _ => by omega, Nat.le_refl _, ⟨_, heap_alloc_new w _, by rfl, rfl, fun t x hx => by simp at hx⟩, by simp, by omega⟩, ⟨below_alloc (Below.refl _ _) _⟩⟩
  case round =>
    obtain ⟨u, i, rfl, rfl, HJ, HB⟩ := hrel
    obtain ⟨ds, hk, hun, hi1, hi2, hi, hrow, hex, hpow⟩ := HJ.out
    clear HJ
    have HROW := Aside0.mk hrow
    have HEX := Aside0.mk hex
    have HP := Aside0.mk hpow
    clear hrow hex hpow
    by_cases hu : u < 16
    · have c1 : decide ((16 : Int) ≤ (u : Int)) = false := decide_eq_false (by omega)
      obtain ⟨i1, rfl⟩ : ∃ i1, i = i1 + 1 := ⟨i - 1, by have := hi1 hu; omega⟩
      have p1 : (0 ≤ (u : Int)) = True := eq_true (by omega)
      have q1 : ((u : Int) < 36) = True := eq_true (by omega)
      have p2 : (0 ≤ (i1 : Int)) = True := eq_true (by omega)
      have q2 : ((i1 : Int) < 65) = True := eq_true (by omega)
      have q3 : ((i1 : Int) ≤ 65) = True := eq_true (by omega)
      obtain ⟨v, hv⟩ := HROW.out.cell i1 (by omega)
      have hfz := HROW.out.frozen i1
      have hlen : 65 - i1 = (hxI u :: ds).length := by have := HROW.out; obtain ⟨_, _, _, h2, _⟩ := this; simp; omega
      have hdig := strconv_FormatInt_hx_at u hu
      have hst := fun n hn => (HROW.out.push (hxI u)).string (P := Tryd.prog) (src := 81) (dst := 9) (e := 5) Tryd.underlying81 Tryd.underlying5 Tryd.underlying9 n n hn
      go_wp2_with fail
      go_ret2
      exact ⟨by rw [HEX.out, hexI_small hu]; rfl, HB.out.setCell (Nat.le_refl _) _⟩
    · have c1 : decide ((16 : Int) ≤ (u : Int)) = true := decide_eq_true (by omega)
      obtain ⟨i1, rfl⟩ : ∃ i1, i = i1 + 1 := ⟨i - 1, by have := hi2 (by omega); omega⟩
      obtain ⟨d, hd⟩ : ∃ d, u % 16 = d := ⟨_, rfl⟩
      have hd16 : d < 16 := by omega
      have hb : bits .and .u64 (u : Int) 15 = (d : Int) := by
        have := bits_mask .u64 63 (by decide) (fun m h0 h1 => by simp [IntKind.wrap, IntKind.bits, IntKind.signed]; omega) 4 (by decide) (u : Int) (by omega) (by omega)
        rw [← hd]; simpa using this
      have p1 : (0 ≤ (d : Int)) = True := eq_true (by omega)
      have q1 : ((d : Int) < 36) = True := eq_true (by omega)
      have p2 : (0 ≤ (i1 : Int)) = True := eq_true (by omega)
      have q2 : ((i1 : Int) < 65) = True := eq_true (by omega)
      obtain ⟨v, hv⟩ := HROW.out.cell i1 (by omega)
      have hfz := HROW.out.frozen i1
      go_wp2_with fail
      rw [strconv_FormatInt_hx_at d hd16]
      go_roundg (u / 16 + 1)
      case measure => omega
      case rel =>
        refine ⟨u / 16, i1, by simp, rfl, ⟨hxI d :: ds, rfl, by omega, fun _ => by omega, fun h16 => ?_, by omega, HROW.out.push _, ?_, ?_⟩, ⟨HB.out.setCell (Nat.le_refl _) _⟩⟩
        · have hp := HP.out
          rcases Nat.lt_or_ge i1 58 with h58 | h58
          · have : i1 + 1 - 57 ≤ 1 := by omega
            have h2 : 16 ^ (i1 + 1 - 57) ≤ 16 ^ 1 := Nat.pow_le_pow_right (by decide) this
            omega
          · omega
        · rw [HEX.out, hexI_big hu, hd]; simp
        · have hp := HP.out
          rcases Nat.lt_or_ge i1 57 with h57 | h57
          · have h2 : 16 ^ (i1 + 1 - 57) ≤ 16 ^ 0 := Nat.pow_le_pow_right (by decide) (by omega)
            omega
          · rw [show i1 + 1 - 57 = (i1 - 57) + 1 by omega, Nat.pow_succ] at hp
            omega
set_option maxHeartbeats 8000000 in
set_option maxRecDepth 100000 in
theorem strconv_FormatInt_fint16 (n : Nat) (hn : n < 268435456) (w : World) (h : w.cell? ⟨7, 15, none⟩ = some (.int .u8 4)) :
    Calls Tryd.prog 113 #[.int .i64 n, .int .i64 16] w fun e w' => e = .returned (.string (strOfNums (hexI n))) ∧ Below w.heap.size w w' := by
  have p1 : ((n : Int) < 0) = False := eq_false (by omega)
  have p2 : decide ((n : Int) < 0) = false := decide_eq_false (by omega)
  have p3 : IntKind.u64.wrap (n : Int) = (n : Int) := by simp [IntKind.wrap, IntKind.bits, IntKind.signed]; omega
  go_enter Tryd.func113, Tryd.ntmps113
  go_wp2_with (go_at_call 140; refine (strconv_FormatInt_fbits n hn _ h).mono ?_; rintro e w' ⟨rfl, hb⟩)
  go_ret
  exact ⟨rfl, hb⟩
def strconv_FormatInt.f (a0 : Int) (a1 : Int) : Option (ByteArray) := if a1 = 16 ∧ 0 ≤ a0 ∧ a0 < 268435456 then some (strOfNums (hexI a0.toNat)) else none
set_option maxHeartbeats 8000000 in
set_option maxRecDepth 100000 in
theorem strconv_FormatInt.calls (a0 : Int) (a1 : Int) (r : ByteArray) (w : World) (hG : Gl w) (h : strconv_FormatInt.f a0 a1 = some r) :
    Calls Tryd.prog 71 #[.int .i64 a0, .int .i64 a1] w fun e w' => e = .returned (.string r) ∧ Below w.heap.size w w' := by
  unfold strconv_FormatInt.f at h
  by_cases hs : a1 = 16 ∧ 0 ≤ a0 ∧ a0 < 268435456
  · rw [if_pos hs] at h
    obtain rfl := Option.some.inj h
    obtain ⟨rfl, h0, h1⟩ := hs
    obtain ⟨n, rfl⟩ : ∃ n : Nat, a0 = n := ⟨a0.toNat, by omega⟩
    have hd := hG.db64
    go_enter Tryd.func71, Tryd.ntmps71
    go_wp2_with (go_at_call 113; refine (strconv_FormatInt_fint16 n (by omega) _ hd).mono ?_; rintro e w' ⟨rfl, hb⟩)
    go_ret
    exact ⟨rfl, hb⟩
  · rw [if_neg hs] at h; cases h


/-! ### impl_HexText: function 31 -/
def impl_HexText.f (a0 : Int) : Option (ByteArray) := (impl_within.f a0 0 268435455).bind fun t104 => (if t104 = true then ((strconv_FormatInt.f a0 16).bind fun t105 => (some t105)) else (some (⟨#[]⟩ : ByteArray)))
set_option maxHeartbeats 8000000 in
set_option maxRecDepth 100000 in
theorem impl_HexText.calls (a0 : Int) (r : ByteArray) (w : World) (hG : Gl w) (h : impl_HexText.f a0 = some r) :
    Calls Tryd.prog 31 #[.int .i64 a0] w fun e w' => e = .returned (.string r) ∧ Below w.heap.size w w' := by
  have HG := Aside0.mk hG
  clear hG
  have HB := Aside0.mk (Below.refl w.heap.size w)
  have H : ((impl_within.f a0 0 268435455).bind fun t104 => (if t104 = true then ((strconv_FormatInt.f a0 16).bind fun t105 => (some t105)) else (some (⟨#[]⟩ : ByteArray)))) = some r := h
  clear h
  replace H := Option.bind_eq_some_iff.mp H
  obtain ⟨t104, A20, H⟩ := H
  replace H : (if t104 = true then ((strconv_FormatInt.f a0 16).bind fun t105 => (some t105)) else (some (⟨#[]⟩ : ByteArray))) = some r := H
  have A2 := Aside0.mk A20
  clear A20
  by_cases c3 : t104 = true
  · subst c3
    have H1 : ((strconv_FormatInt.f a0 16).bind fun t105 => (some t105)) = some r := by rw [if_pos rfl] at H; exact H
    clear H
    have H := H1
    clear H1
    replace H := Option.bind_eq_some_iff.mp H
    obtain ⟨t105, A40, H⟩ := H
    replace H : (some t105) = some r := H
    have A4 := Aside0.mk A40
    clear A40
    obtain rfl := Option.some.inj H
    go_enter Tryd.func31, Tryd.ntmps31
    go_wp2_with (first | ((with_reducible refine gate_callee (f := 30) rfl ?_); refine goesL_ (some 4) rfl rfl Tryd.func30 (by kernel_rfl) rfl #[.int .i64 a0, .int .i64 0, .int .i64 268435455] rfl (by (try simp only [List.map_toArray, List.map_cons, List.map_nil]); first | done | rfl | (simp only [List.length_drop, List.length_take]; rfl)) ?_; (with_reducible refine (impl_within.calls a0 0 268435455 true _ A2.out).mono ?_); rintro e w' ⟨rfl, ⟨nd, rfl⟩⟩; refine ⟨_, rfl, ?_⟩) | ((with_reducible refine gate_callee (f := 71) rfl ?_); refine goesL_ (some 7) rfl rfl Tryd.func71 (by kernel_rfl) rfl #[.int .i64 a0, .int .i64 16] rfl (by (try simp only [List.map_toArray, List.map_cons, List.map_nil]); first | done | rfl | (simp only [List.length_drop, List.length_take]; rfl)) ?_; (with_reducible refine (strconv_FormatInt.calls a0 16 t105 _ ?side1 A4.out).mono ?_); (case side1 => exact Gl.below HG.out (by repeat (first | (with_reducible first | exact HB.out | apply below_alloc | apply pw_below_drewN | apply below_drew1) | exact HB.out))); rintro e w5 ⟨rfl, hb⟩; refine ⟨_, rfl, ?_⟩; have n0_ := Aside0.mk (below_step (by repeat (first | (with_reducible first | exact HB.out | apply below_alloc | apply pw_below_drewN | apply below_drew1) | exact HB.out)) hb); clear HB; have HB := n0_; clear n0_; (try clear hb); (try clear hb2); (try clear hk); (try clear hi)))
    go_ret
    exact ⟨by first | rfl | (simp [errW_none, errW_some] <;> rfl) | (simp [*, errW_none, errW_some] <;> rfl), by repeat (first | (with_reducible first | exact HB.out | apply below_alloc | apply pw_below_drewN | apply below_drew1) | exact HB.out)⟩
  · replace c3 := Bool.eq_false_iff.mpr c3
    subst c3
    have H1 : (some (⟨#[]⟩ : ByteArray)) = some r := by rw [if_neg (show ¬ (false = true) by decide)] at H; exact H
    clear H
    have H := H1
    clear H1
    obtain rfl := Option.some.inj H
    go_enter Tryd.func31, Tryd.ntmps31
    go_wp2_with (first | ((with_reducible refine gate_callee (f := 30) rfl ?_); refine goesL_ (some 4) rfl rfl Tryd.func30 (by kernel_rfl) rfl #[.int .i64 a0, .int .i64 0, .int .i64 268435455] rfl (by (try simp only [List.map_toArray, List.map_cons, List.map_nil]); first | done | rfl | (simp only [List.length_drop, List.length_take]; rfl)) ?_; (with_reducible refine (impl_within.calls a0 0 268435455 false _ A2.out).mono ?_); rintro e w' ⟨rfl, ⟨nd, rfl⟩⟩; refine ⟨_, rfl, ?_⟩))
    go_ret
    exact ⟨by first | rfl | (simp [errW_none, errW_some] <;> rfl) | (simp [*, errW_none, errW_some] <;> rfl), by repeat (first | (with_reducible first | exact HB.out | apply below_alloc | apply pw_below_drewN | apply below_drew1) | exact HB.out)⟩

end Go.Proofs.YtnfjjbpochmhpaaDoor.GFnExactChunkText
