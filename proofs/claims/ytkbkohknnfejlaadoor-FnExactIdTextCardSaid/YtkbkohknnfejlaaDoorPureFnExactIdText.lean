/- IdText of the program and of the reference agree, and the call returns true, for every whole number. No condition. -/
import Derived.Test.YtkbkohknnfejlaaDoorGFnExactIdTextx1
import Derived.Laws.Strings
import Derived.Lib.ItoaNum
import Derived.OpenShut
namespace Go.Proofs.YtkbkohknnfejlaaDoor.Pure
open Go.RowKit Go.Proofs.YtkbkohknnfejlaaDoor.GFnExactIdText Go.Proofs.YtkbkohknnfejlaaDoorW.PrintWords Go.Proofs.YtkbkohknnfejlaaDoorW.PrintLast Go.Proofs.YtkbkohknnfejlaaDoorW.PrintMore
set_option linter.unusedVariables false
set_option linter.unusedSimpArgs false

/-! #### Bytes -/
/-- More rounds: an Ev of a function of its own. -/
theorem Ev.mono1 {α : Type} {g : Nat → Option α} {r : α} (K : Nat) (h : ∀ k, g (k + K) = some r) : Ev g r :=
  ⟨K, fun k hk => by obtain ⟨m, rfl⟩ : ∃ m, k = m + K := ⟨k - K, by omega⟩; exact h m⟩
theorem toList_inj {a b : ByteArray} (h : a.toList = b.toList) : a = b := by
  rw [ByteArray.toList_eq, ByteArray.toList_eq] at h
  cases a; cases b; simp_all
theorem getD_mid {α : Type} (pre : List α) (x : α) (r : List α) (z : α) : (pre ++ x :: r).getD ((pre.length : Int).toNat) z = x := by simp [List.getD]
theorem wrap_succ {n : Nat} (h : n < 9223372036854775807) : wrap64 ((n : Int) + 1) = ((n + 1 : Nat) : Int) := by unfold wrap64; omega
theorem wrap_id {a : Int} (h1 : -9223372036854775808 ≤ a) (h2 : a ≤ 9223372036854775807) : wrap64 a = a := by unfold wrap64; omega
theorem len_mid {α : Type} (pre : List α) (x : α) (r : List α) : (pre.length : Int) < ((pre ++ x :: r).length : Int) := by simp; omega
theorem app_mid {α : Type} (pre : List α) (x : α) (r : List α) : pre ++ x :: r = (pre ++ [x]) ++ r := by simp
theorem len_snoc {α : Type} (pre : List α) (x : α) : ((pre ++ [x]).length : Int) = (pre.length : Int) + 1 := by simp
theorem toList_length (s : ByteArray) : s.toList.length = s.size := by rw [ByteArray.toList_eq, Array.length_toList]; rfl
theorem size_pos_iff (s : ByteArray) : (s.toList = ([] : List UInt8)) ↔ (s.size : Int) = 0 := by
  rw [← List.length_eq_zero_iff, toList_length]; omega
theorem size_strOf (xs : List Int) : (strOfNums xs).size = xs.length := by
  show (strOfNums xs).data.size = _
  simp [strOfNums]
theorem length_bytesOf (s : ByteArray) : (bytesOf s).length = s.size := bytesOf_length s
theorem less_irrefl : ∀ l : List UInt8, Op.bytesLess l l = false
  | [] => rfl
  | a :: l => by simp [Op.bytesLess, less_irrefl l]
theorem less_total : ∀ l m : List UInt8, l ≠ m → Op.bytesLess l m = !Op.bytesLess m l
  | [], [], h => absurd rfl h
  | [], _ :: _, _ => rfl
  | _ :: _, [], _ => rfl
  | a :: l, b :: m, h => by
    by_cases e : a = b
    · subst e
      have := less_total l m (fun e => h (by rw [e]))
      simp [Op.bytesLess, this]
    · have hne : (a == b) = false := by simpa using e
      have hne' : (b == a) = false := by simpa using fun x => e x.symm
      simp only [Op.bytesLess, hne, hne', Bool.false_and, Bool.or_false]
      rcases Nat.lt_trichotomy a.toNat b.toNat with h1 | h1 | h1
      · have x1 : a < b := UInt8.lt_iff_toNat_lt.2 h1
        have x2 : ¬ b < a := fun x => by have := UInt8.lt_iff_toNat_lt.1 x; omega
        simp [x1, x2]
      · exact absurd (UInt8.toNat_inj.1 h1) e
      · have x1 : b < a := UInt8.lt_iff_toNat_lt.2 h1
        have x2 : ¬ a < b := fun x => by have := UInt8.lt_iff_toNat_lt.1 x; omega
        simp [x1, x2]

/-! #### Str -/
def mkB (l : List UInt8) : ByteArray := ⟨l.toArray⟩
def bl (s : ByteArray) : List UInt8 := s.data.toList
theorem mk_bl (s : ByteArray) : mkB (bl s) = s := by cases s; simp [mkB, bl]
theorem bl_mk (l : List UInt8) : bl (mkB l) = l := by simp [mkB, bl]
theorem size_mk (l : List UInt8) : (mkB l).size = l.length := by show (mkB l).data.size = _; simp [mkB]
theorem size_bl (s : ByteArray) : (bl s).length = s.size := by rw [bl, Array.length_toList]; rfl
theorem toList_bl (s : ByteArray) : s.toList = bl s := ByteArray.toList_eq s
theorem toList_mk (l : List UInt8) : (mkB l).toList = l := by rw [toList_bl, bl_mk]
theorem mkB_inj {l m : List UInt8} (h : mkB l = mkB m) : l = m := by rw [← bl_mk l, h, bl_mk]
theorem getB (l : List UInt8) (i : Nat) (h : i < (mkB l).size) : (mkB l)[i]'h = l[i]'(by rwa [size_mk] at h) := by
  show (mkB l).data[i]'h = _
  simp [mkB]
theorem bt_at_ (l : List UInt8) (i : Nat) (h : i < l.length) : bt (mkB l) (i : Int) = ((l[i]'h).toNat : Int) := by
  unfold bt
  rw [dif_pos (by rw [size_mk]; simpa using h), getB]
  simp
theorem bt_mid (pre : List UInt8) (b : UInt8) (r : List UInt8) : bt (mkB (pre ++ b :: r)) (pre.length : Int) = (b.toNat : Int) := by
  rw [bt_at_ _ _ (by simp)]
  simp
theorem extract_mk (l : List UInt8) (i j : Nat) : (mkB l).extract i j = mkB ((l.drop i).take (j - i)) := by
  apply toList_inj
  rw [toList_mk, toList_bl, bl, ByteArray.data_extract, Array.toList_extract]
  simp [mkB, List.extract]
theorem drop_mid (pre : List UInt8) (b : UInt8) (r : List UInt8) : (pre ++ b :: r).drop (pre.length + 1) = r := by
  rw [app_mid, List.drop_left' (by simp)]
theorem size_lt_mid (pre : List UInt8) (b : UInt8) (r : List UInt8) : (pre.length : Int) < ((mkB (pre ++ b :: r)).size : Int) := by rw [size_mk]; exact len_mid ..
theorem u8_lt (b : UInt8) : (b.toNat : Int) < 256 := by have := b.toNat_lt; omega
theorem toUInt8_toNat (b : UInt8) : ((b.toNat : Int)).toNat.toUInt8 = b := by simp
/-- 'for all bytes', as a loop over a string's places. -/
theorem all_loop (F : Nat → ByteArray → Int → Option Bool) (G : Nat → Int → Option Bool) (p : UInt8 → Bool) (hG : ∀ b : UInt8, Ev (fun k => G k b.toNat) (p b))
    (hF : ∀ k s i, F (k + 1) s i = if i < (s.size : Int) then (if 0 ≤ i then (G k (bt s i)).bind fun t => (if t = true then F k s (wrap64 (i + 1)) else some false) else none) else some true) :
    ∀ (r pre : List UInt8), (pre ++ r).length ≤ 9223372036854775806 → Ev (fun k => F k (mkB (pre ++ r)) pre.length) (r.all p)
  | [], pre, _ => Ev.step (f := fun _ => some true) (fun k => by rw [hF, size_mk]; simp) (Ev.now _)
  | b :: r, pre, hl => by
    have ih := all_loop F G p hG hF r (pre ++ [b]) (by rw [← app_mid]; exact hl)
    rw [← app_mid, len_snoc] at ih
    simp at hl
    refine Ev.step (f := fun k => (G k b.toNat).bind fun t => (if t = true then F k (mkB (pre ++ b :: r)) (pre.length + 1) else some false)) (fun k => ?_) ?_
    · rw [hF, if_pos (size_lt_mid ..), if_pos (by omega), bt_mid, wrap_id (by omega) (by omega)]
    refine (hG b).bind ?_
    cases hp : p b
    · simpa [List.all_cons, hp] using Ev.now false
    · simpa [List.all_cons, hp] using ih
theorem all_ev (F : Nat → ByteArray → Int → Option Bool) (G : Nat → Int → Option Bool) (p : UInt8 → Bool) (hG : ∀ b : UInt8, Ev (fun k => G k b.toNat) (p b))
    (hF : ∀ k s i, F (k + 1) s i = if i < (s.size : Int) then (if 0 ≤ i then (G k (bt s i)).bind fun t => (if t = true then F k s (wrap64 (i + 1)) else some false) else none) else some true)
    (s : ByteArray) (hs : s.size ≤ 9223372036854775806) : Ev (fun k => F k s 0) ((bl s).all p) := by
  have := all_loop F G p hG hF (bl s) [] (by simpa [size_bl] using hs)
  simpa [mk_bl] using this
theorem Ev.const {α : Type} {x : Option α} {r : α} (h : x = some r) : Ev (fun _ => x) r := ⟨0, fun _ _ => h⟩

/-! #### Dec -/
theorem strOf_append (a b : List Int) : strOfNums (a ++ b) = strOfNums a ++ strOfNums b := by
  cases h : strOfNums (a ++ b) with | mk d =>
  cases h2 : strOfNums a ++ strOfNums b with | mk d2 =>
  congr 1
  have h3 : (strOfNums (a ++ b)).data.toList = (strOfNums a ++ strOfNums b).data.toList := by simp [strOfNums]
  rw [h, h2] at h3
  exact Array.toList_inj.1 h3
theorem strOf_digit (n : Nat) (h : n < 10) : strOfNums [(wrap64 (48 + (n : Int))) % 256] = mkB [UInt8.ofNat (48 + n)] := by
  have e : (wrap64 (48 + (n : Int))) % 256 = ((48 + n : Nat) : Int) := by rw [wrap_id (by omega) (by omega)]; omega
  rw [e]
  show (⟨(([((48 + n : Nat) : Int)] : List Int).map fun n => UInt8.ofNat n.toNat).toArray⟩ : ByteArray) = _
  rw [List.map_cons, List.map_nil, Int.toNat_natCast]
  rfl
theorem mk_append (a b : List UInt8) : mkB a ++ mkB b = mkB (a ++ b) := by
  cases h : mkB a ++ mkB b with | mk d =>
  have h3 : (mkB a ++ mkB b).data.toList = a ++ b := by simp [mkB]
  rw [h] at h3
  simp only [mkB, ByteArray.mk.injEq]
  apply Array.toList_inj.1
  rw [h3]
theorem nDigits_le15 (n : Nat) (h : n ≤ 999999999999999) : Lib.nDigits n ≤ 15 := by
  by_cases h1 : Lib.nDigits n ≤ 15
  · exact h1
  · have hk : ∀ k u : Nat, u < 10 ^ (k + 1) → Lib.nDigits u ≤ k + 1 := by
      intro k
      induction k with
      | zero => intro u hu; rw [Lib.nDigits_small (by simpa using hu)]; omega
      | succ k ih =>
        intro u hu
        by_cases h10 : u < 10
        · rw [Lib.nDigits_small h10]; omega
        · rw [Lib.nDigits_big h10]
          have := ih (u / 10) (by rw [Nat.pow_succ] at hu; omega)
          omega
    exact hk 14 n (by omega)
theorem specDec_is (n : Nat) (h : n ≤ 999999999999999) : Ev (fun k => spec_DecText.f k (n : Int)) (mkB (Lib.decDigits n)) := by
  induction n using Nat.strongRecOn with
  | _ n ih =>
    have hd : decide ((n : Int) > 999999999999999) = false := decide_eq_false (by omega)
    refine Ev.step (f := fun k => spec_DecText.j0 k (n : Int) false) (fun k => by simp only [spec_DecText.f]; rw [if_neg (by omega), hd]) ?_
    by_cases h10 : n < 10
    · refine Ev.step (f := fun _ => some (mkB (Lib.decDigits n))) (fun k => ?_) (Ev.now _)
      simp only [spec_DecText.j0, Bool.false_eq_true, if_false]
      rw [if_pos (by omega), strOf_digit n h10, Lib.decDigits, dif_pos h10]
    · have ih' := ih (n / 10) (by omega) (by omega)
      have hlen : (mkB (Lib.decDigits (n / 10))).size ≤ 15 := by rw [size_mk, Lib.decDigits_length]; exact nDigits_le15 _ (by omega)
      have e1 : wrap64 (Int.tdiv (n : Int) 10) = ((n / 10 : Nat) : Int) := by
        rw [Int.tdiv_eq_ediv_of_nonneg (by omega), wrap_id (by omega) (by omega)]; rfl
      have e2 : Int.tmod (n : Int) 10 = ((n % 10 : Nat) : Int) := by rw [Int.tmod_eq_emod_of_nonneg (by omega)]; rfl
      refine Ev.step (f := fun k => (spec_DecText.f k ((n / 10 : Nat) : Int)).bind fun t => if t.size + (mkB [UInt8.ofNat (48 + n % 10)]).size ≤ 9223372036854775807 then some (t ++ mkB [UInt8.ofNat (48 + n % 10)]) else none) (fun k => ?_) ?_
      · simp only [spec_DecText.j0, Bool.false_eq_true, if_false]
        rw [if_neg (by omega), e1, e2]
        simp only [Option.bind_some, strOf_digit (n % 10) (show n % 10 < 10 by omega)]
      · refine ih'.bind ?_
        have hs : (mkB [UInt8.ofNat (48 + n % 10)]).size = 1 := by rw [size_mk]; rfl
        have hdd : Lib.decDigits n = Lib.decDigits (n / 10) ++ [UInt8.ofNat (48 + n % 10)] := by rw [Lib.decDigits, dif_neg h10]
        rw [if_pos (by omega), mk_append, hdd]
        exact Ev.now _
theorem itoa_is (n : Nat) (h : n ≤ 999999999999999) : strconv_Itoa.f (n : Int) = some (mkB (Lib.decDigits n)) := by
  unfold strconv_Itoa.f
  rw [if_pos ⟨by omega, by omega⟩]
  unfold Lib.itoa
  rw [if_neg (by omega)]
  rfl

theorem FnExactIdText : laws_FnExactIdText.Pure := by
  intro a _
  refine Ev.rounds ?_
  unfold laws_FnExactIdText.f spec_IdText.f impl_IdText.f impl_isId.f impl_within.f
  by_cases h0 : a < 0
  · simp only [if_pos h0, if_neg (show ¬ 0 ≤ a by omega), Option.bind_some, Bool.false_eq_true, if_false, if_true]; exact Ev.now _
  by_cases h1 : a > 999999
  · simp only [if_neg h0, if_pos h1, if_pos (show 0 ≤ a by omega), decide_eq_false (show ¬ a ≤ 999999 by omega), Option.bind_some, Bool.false_eq_true, if_false, if_true]; exact Ev.now _
  obtain ⟨n, rfl⟩ : ∃ n : Nat, a = n := ⟨a.toNat, by omega⟩
  simp only [if_neg h0, if_neg h1, if_pos (show (0 : Int) ≤ n by omega), decide_eq_true (show (n : Int) ≤ 999999 by omega), Option.bind_some, if_true]
  have hlen : (mkB (Lib.decDigits n)).size ≤ 15 := by rw [size_mk, Lib.decDigits_length]; exact nDigits_le15 _ (by omega)
  have h15 : (⟨#[60, 117, 114, 110, 58, 115, 116, 105, 108, 108, 114, 111, 111, 109, 58]⟩ : ByteArray).size = 15 := rfl
  have hsz : ((⟨#[60, 117, 114, 110, 58, 115, 116, 105, 108, 108, 114, 111, 111, 109, 58]⟩ : ByteArray) ++ mkB (Lib.decDigits n)).size + 1 ≤ 9223372036854775807 := by rw [ByteArray.size_append, h15]; omega
  simp only [itoa_is n (by omega), Option.bind_some, if_pos (show 15 + (mkB (Lib.decDigits n)).size ≤ 9223372036854775807 by omega), if_pos hsz]
  refine Ev.bind (a := (⟨#[60, 117, 114, 110, 58, 115, 116, 105, 108, 108, 114, 111, 111, 109, 58]⟩ : ByteArray) ++ mkB (Lib.decDigits n) ++ ⟨#[62]⟩) ?_ ?_
  · refine (specDec_is n (by omega)).bind ?_
    simp only [if_pos (show 15 + (mkB (Lib.decDigits n)).size ≤ 9223372036854775807 by omega), if_pos hsz]
    exact Ev.now _
  · simp only [if_true]; exact Ev.now _

end Go.Proofs.YtkbkohknnfejlaaDoor.Pure
