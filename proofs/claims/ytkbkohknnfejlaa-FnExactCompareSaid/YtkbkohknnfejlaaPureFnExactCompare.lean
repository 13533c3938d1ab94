/- Compare of the program and of the reference agree, and the call returns true, for every two lines. No condition. -/
import Derived.Test.YtkbkohknnfejlaaGFnExactComparex2
import Derived.Laws.Strings
import Derived.OpenShut
namespace Go.Proofs.Ytkbkohknnfejlaa.Pure
open Go.RowKit Go.Proofs.Ytkbkohknnfejlaa.GFnExactCompare Go.Proofs.YtkbkohknnfejlaaW.PrintWords Go.Proofs.YtkbkohknnfejlaaW.PrintLast Go.Proofs.YtkbkohknnfejlaaW.PrintMore
set_option linter.unusedVariables false
set_option linter.unusedSimpArgs false

/-! #### Bytes -/
/-- More rounds: an Ev of a function of its own. -/
theorem Ev.mono1 {α : Type} {g : Nat → Option α} {r : α} (K : Nat) (h : ∀ k, g (k + K) = some r) : Ev g r :=
  ⟨K, fun k hk => by obtain ⟨m, rfl⟩ : ∃ m, k = m + K := ⟨k - K, by omega⟩; exact h m⟩
theorem toList_inj {a b : ByteArray} (h : a.toList = b.toList) : a = b := by
  rw [ByteArray.toList_eq, ByteArray.toList_eq] at h
  cases a; cases b; simp_all
theorem getD_mid {α : Type} (pre : List α) (x : α) (r : List α) (z : α) : (pre ++ x :: r).getD ((pre.length : Int).toNat) z = x := by simp [List.getD]
theorem wrap_succ {n : Nat} (h : n < 9223372036854775807) : wrap64 ((n : Int) + 1) = ((n + 1 : Nat) : Int) := by unfold wrap64; omega
theorem wrap_id {a : Int} (h1 : -9223372036854775808 ≤ a) (h2 : a ≤ 9223372036854775807) : wrap64 a = a := by unfold wrap64; omega
theorem len_mid {α : Type} (pre : List α) (x : α) (r : List α) : (pre.length : Int) < ((pre ++ x :: r).length : Int) := by simp; omega
theorem app_mid {α : Type} (pre : List α) (x : α) (r : List α) : pre ++ x :: r = (pre ++ [x]) ++ r := by simp
theorem len_snoc {α : Type} (pre : List α) (x : α) : ((pre ++ [x]).length : Int) = (pre.length : Int) + 1 := by simp
theorem toList_length (s : ByteArray) : s.toList.length = s.size := by rw [ByteArray.toList_eq, Array.length_toList]; rfl
theorem size_pos_iff (s : ByteArray) : (s.toList = ([] : List UInt8)) ↔ (s.size : Int) = 0 := by
  rw [← List.length_eq_zero_iff, toList_length]; omega
theorem size_strOf (xs : List Int) : (strOfNums xs).size = xs.length := by
  show (strOfNums xs).data.size = _
  simp [strOfNums]
theorem length_bytesOf (s : ByteArray) : (bytesOf s).length = s.size := bytesOf_length s
theorem less_irrefl : ∀ l : List UInt8, Op.bytesLess l l = false
  | [] => rfl
  | a :: l => by simp [Op.bytesLess, less_irrefl l]
theorem less_total : ∀ l m : List UInt8, l ≠ m → Op.bytesLess l m = !Op.bytesLess m l
  | [], [], h => absurd rfl h
  | [], _ :: _, _ => rfl
  | _ :: _, [], _ => rfl
  | a :: l, b :: m, h => by
    by_cases e : a = b
    · subst e
      have := less_total l m (fun e => h (by rw [e]))
      simp [Op.bytesLess, this]
    · have hne : (a == b) = false := by simpa using e
      have hne' : (b == a) = false := by simpa using fun x => e x.symm
      simp only [Op.bytesLess, hne, hne', Bool.false_and, Bool.or_false]
      rcases Nat.lt_trichotomy a.toNat b.toNat with h1 | h1 | h1
      · have x1 : a < b := UInt8.lt_iff_toNat_lt.2 h1
        have x2 : ¬ b < a := fun x => by have := UInt8.lt_iff_toNat_lt.1 x; omega
        simp [x1, x2]
      · exact absurd (UInt8.toNat_inj.1 h1) e
      · have x1 : b < a := UInt8.lt_iff_toNat_lt.2 h1
        have x2 : ¬ a < b := fun x => by have := UInt8.lt_iff_toNat_lt.1 x; omega
        simp [x1, x2]

/-! #### Compare -/
def sgn (a b : Int) : Int := if a < b then -1 else if a > b then 1 else 0
theorem l9sign_is (a b : Int) : spec_l9sign.f a b = some (sgn a b) := by
  unfold spec_l9sign.f sgn; split
  · rfl
  · split <;> rfl
theorem cmpInt_is (a b : Int) : cmp_Compare_int.f a b = some (sgn a b) := by
  unfold cmp_Compare_int.f cmp_isNaN_int.f sgn
  simp only [Option.bind_some, bne_self_eq_false, Bool.false_eq_true, if_false]
  split
  · rfl
  · split <;> rfl
def sgnS (a b : ByteArray) : Int := if a.toList = b.toList then 0 else if Op.bytesLess a.toList b.toList = true then -1 else 1
theorem cmpStr_is (a b : ByteArray) : cmp_Compare_string.f a b = some (sgnS a b) := by
  unfold cmp_Compare_string.f cmp_isNaN_string.f sgnS
  simp only [Option.bind_some, bne_self_eq_false, Bool.false_eq_true, if_false]
  by_cases e : a.toList = b.toList
  · rw [if_pos e, e, less_irrefl]; simp
  · rw [if_neg e]
    have := less_total _ _ e
    cases h : Op.bytesLess a.toList b.toList
    · rw [h] at this
      have h2 : Op.bytesLess b.toList a.toList = true := by simpa using this.symm
      simp [h2]
    · simp
def or4 (a b c d : Int) : Int := if a ≠ 0 then a else if b ≠ 0 then b else if c ≠ 0 then c else d
theorem cmpOr_is (a b c d : Int) : Ev (fun k => cmp_Or_int.f k [a, b, c, d]) (or4 a b c d) := by
  refine Ev.mono1 5 fun k => ?_
  unfold or4
  by_cases ha : a = 0
  · subst ha
    by_cases hb : b = 0
    · subst hb
      by_cases hc : c = 0
      · subst hc
        by_cases hd : d = 0
        · subst hd; simp [cmp_Or_int.f, cmp_Or_int.l0, rd, wrap64]
        · simp [cmp_Or_int.f, cmp_Or_int.l0, rd, wrap64, hd]
      · simp [cmp_Or_int.f, cmp_Or_int.l0, rd, wrap64, hc]
    · simp [cmp_Or_int.f, cmp_Or_int.l0, rd, wrap64, hb]
  · simp [cmp_Or_int.f, cmp_Or_int.l0, rd, wrap64, ha]
def cmpL (k1 k2 : ByteArray) (t1 t2 s1 s2 a1 a2 : Int) : Int := or4 (sgnS k1 k2) (sgn t1 t2) (sgn s1 s2) (sgn a1 a2)
theorem specCompare_is (a0 : ByteArray) (a1 a2 : Int) (a3 : ByteArray) (a4 : Int) (a5 : ByteArray) (a6 : Bool) (a7 a8 a9 : Int) (b0 : ByteArray) (b1 b2 : Int) (b3 : ByteArray) (b4 : Int) (b5 : ByteArray) (b6 : Bool) (b7 b8 b9 : Int) :
    spec_Compare.f a0 a1 a2 a3 a4 a5 a6 a7 a8 a9 b0 b1 b2 b3 b4 b5 b6 b7 b8 b9 = some (cmpL a0 b0 a1 b1 a7 b7 a8 b8) := by
  unfold spec_Compare.f cmpL or4 sgnS
  simp only [l9sign_is, Option.bind_some]
  by_cases e : a0.toList = b0.toList
  · simp only [e, if_true]
    by_cases h1 : sgn a1 b1 = 0
    · simp only [h1, if_true]
      by_cases h2 : sgn a7 b7 = 0
      · simp [h2]
      · simp [h2]
    · simp [h1]
  · simp only [e, if_false]
    split <;> simp
theorem implCompare_is (a0 : ByteArray) (a1 a2 : Int) (a3 : ByteArray) (a4 : Int) (a5 : ByteArray) (a6 : Bool) (a7 a8 a9 : Int) (b0 : ByteArray) (b1 b2 : Int) (b3 : ByteArray) (b4 : Int) (b5 : ByteArray) (b6 : Bool) (b7 b8 b9 : Int) :
    Ev (fun k => impl_Compare.f k a0 a1 a2 a3 a4 a5 a6 a7 a8 a9 b0 b1 b2 b3 b4 b5 b6 b7 b8 b9) (cmpL a0 b0 a1 b1 a7 b7 a8 b8) := by
  unfold impl_Compare.f
  simp only [cmpInt_is, cmpStr_is, Option.bind_some]
  exact (cmpOr_is _ _ _ _).bind (Ev.now _)

theorem FnExactCompare : laws_FnExactCompare.Pure := by
  intro a0 a1 a2 a3 a4 a5 a6 a7 a8 a9 b0 b1 b2 b3 b4 b5 b6 b7 b8 b9 _ _
  have sz : ∀ x0 x1 x2 x3 x4 x5 x6 x7 x8 x9 l, ∃ t, laws_szLine.f x0 x1 x2 x3 x4 x5 x6 x7 x8 x9 l = some t := by
    intros; unfold laws_szLine.f
    repeat (first | exact ⟨_, rfl⟩ | split)
  obtain ⟨t, ht⟩ := sz a0 a1 a2 a3 a4 a5 a6 a7 a8 a9 1048576
  obtain ⟨t', ht'⟩ := sz b0 b1 b2 b3 b4 b5 b6 b7 b8 b9 t
  refine Ev.rounds ?_
  unfold laws_FnExactCompare.f
  simp only [ht, ht', laws_toLine.f, specCompare_is, Option.bind_some]
  by_cases h : t < 0
  · simp only [h, if_true]; exact Ev.now _
  · simp only [h, if_false]
    by_cases h' : t' < 0
    · simp only [h', if_true]; exact Ev.now _
    · simp only [h', if_false]
      refine (implCompare_is a0 a1 a2 a3 a4 a5 a6 a7 a8 a9 b0 b1 b2 b3 b4 b5 b6 b7 b8 b9).bind ?_
      simp only [if_true]; exact Ev.now _

end Go.Proofs.Ytkbkohknnfejlaa.Pure
