/- ReadId of the program and of the reference agree, and the call returns true, for every text. No condition. -/
import Derived.Test.YtnfjjbpochmhpaaDoorGFnExactReadIdx2
import Derived.Laws.Strings
import Derived.Lib.AtoiAll
import Derived.Lib.ItoaNum
import Derived.OpenShut
namespace Go.Proofs.YtnfjjbpochmhpaaDoor.Pure
open Go.RowKit Go.Proofs.YtnfjjbpochmhpaaDoor.GFnExactReadId Go.Proofs.YtnfjjbpochmhpaaDoorW.PrintWords Go.Proofs.YtnfjjbpochmhpaaDoorW.PrintLast Go.Proofs.YtnfjjbpochmhpaaDoorW.PrintMore
set_option linter.unusedVariables false
set_option linter.unusedSimpArgs false

/-! #### Bytes -/
/-- More rounds: an Ev of a function of its own. -/
theorem Ev.mono1 {α : Type} {g : Nat → Option α} {r : α} (K : Nat) (h : ∀ k, g (k + K) = some r) : Ev g r :=
  ⟨K, fun k hk => by obtain ⟨m, rfl⟩ : ∃ m, k = m + K := ⟨k - K, by omega⟩; exact h m⟩
theorem toList_inj {a b : ByteArray} (h : a.toList = b.toList) : a = b := by
  rw [ByteArray.toList_eq, ByteArray.toList_eq] at h
  cases a; cases b; simp_all
theorem getD_mid {α : Type} (pre : List α) (x : α) (r : List α) (z : α) : (pre ++ x :: r).getD ((pre.length : Int).toNat) z = x := by simp [List.getD]
theorem wrap_succ {n : Nat} (h : n < 9223372036854775807) : wrap64 ((n : Int) + 1) = ((n + 1 : Nat) : Int) := by unfold wrap64; omega
theorem wrap_id {a : Int} (h1 : -9223372036854775808 ≤ a) (h2 : a ≤ 9223372036854775807) : wrap64 a = a := by unfold wrap64; omega
theorem len_mid {α : Type} (pre : List α) (x : α) (r : List α) : (pre.length : Int) < ((pre ++ x :: r).length : Int) := by simp; omega
theorem app_mid {α : Type} (pre : List α) (x : α) (r : List α) : pre ++ x :: r = (pre ++ [x]) ++ r := by simp
theorem len_snoc {α : Type} (pre : List α) (x : α) : ((pre ++ [x]).length : Int) = (pre.length : Int) + 1 := by simp
theorem toList_length (s : ByteArray) : s.toList.length = s.size := by rw [ByteArray.toList_eq, Array.length_toList]; rfl
theorem size_pos_iff (s : ByteArray) : (s.toList = ([] : List UInt8)) ↔ (s.size : Int) = 0 := by
  rw [← List.length_eq_zero_iff, toList_length]; omega
theorem size_strOf (xs : List Int) : (strOfNums xs).size = xs.length := by
  show (strOfNums xs).data.size = _
  simp [strOfNums]
theorem length_bytesOf (s : ByteArray) : (bytesOf s).length = s.size := bytesOf_length s
theorem less_irrefl : ∀ l : List UInt8, Op.bytesLess l l = false
  | [] => rfl
  | a :: l => by simp [Op.bytesLess, less_irrefl l]
theorem less_total : ∀ l m : List UInt8, l ≠ m → Op.bytesLess l m = !Op.bytesLess m l
  | [], [], h => absurd rfl h
  | [], _ :: _, _ => rfl
  | _ :: _, [], _ => rfl
  | a :: l, b :: m, h => by
    by_cases e : a = b
    · subst e
      have := less_total l m (fun e => h (by rw [e]))
      simp [Op.bytesLess, this]
    · have hne : (a == b) = false := by simpa using e
      have hne' : (b == a) = false := by simpa using fun x => e x.symm
      simp only [Op.bytesLess, hne, hne', Bool.false_and, Bool.or_false]
      rcases Nat.lt_trichotomy a.toNat b.toNat with h1 | h1 | h1
      · have x1 : a < b := UInt8.lt_iff_toNat_lt.2 h1
        have x2 : ¬ b < a := fun x => by have := UInt8.lt_iff_toNat_lt.1 x; omega
        simp [x1, x2]
      · exact absurd (UInt8.toNat_inj.1 h1) e
      · have x1 : b < a := UInt8.lt_iff_toNat_lt.2 h1
        have x2 : ¬ a < b := fun x => by have := UInt8.lt_iff_toNat_lt.1 x; omega
        simp [x1, x2]

/-! #### Str -/
def mkB (l : List UInt8) : ByteArray := ⟨l.toArray⟩
def bl (s : ByteArray) : List UInt8 := s.data.toList
theorem mk_bl (s : ByteArray) : mkB (bl s) = s := by cases s; simp [mkB, bl]
theorem bl_mk (l : List UInt8) : bl (mkB l) = l := by simp [mkB, bl]
theorem size_mk (l : List UInt8) : (mkB l).size = l.length := by show (mkB l).data.size = _; simp [mkB]
theorem size_bl (s : ByteArray) : (bl s).length = s.size := by rw [bl, Array.length_toList]; rfl
theorem toList_bl (s : ByteArray) : s.toList = bl s := ByteArray.toList_eq s
theorem toList_mk (l : List UInt8) : (mkB l).toList = l := by rw [toList_bl, bl_mk]
theorem mkB_inj {l m : List UInt8} (h : mkB l = mkB m) : l = m := by rw [← bl_mk l, h, bl_mk]
theorem getB (l : List UInt8) (i : Nat) (h : i < (mkB l).size) : (mkB l)[i]'h = l[i]'(by rwa [size_mk] at h) := by
  show (mkB l).data[i]'h = _
  simp [mkB]
theorem bt_at_ (l : List UInt8) (i : Nat) (h : i < l.length) : bt (mkB l) (i : Int) = ((l[i]'h).toNat : Int) := by
  unfold bt
  rw [dif_pos (by rw [size_mk]; simpa using h), getB]
  simp
theorem bt_mid (pre : List UInt8) (b : UInt8) (r : List UInt8) : bt (mkB (pre ++ b :: r)) (pre.length : Int) = (b.toNat : Int) := by
  rw [bt_at_ _ _ (by simp)]
  simp
theorem extract_mk (l : List UInt8) (i j : Nat) : (mkB l).extract i j = mkB ((l.drop i).take (j - i)) := by
  apply toList_inj
  rw [toList_mk, toList_bl, bl, ByteArray.data_extract, Array.toList_extract]
  simp [mkB, List.extract]
theorem drop_mid (pre : List UInt8) (b : UInt8) (r : List UInt8) : (pre ++ b :: r).drop (pre.length + 1) = r := by
  rw [app_mid, List.drop_left' (by simp)]
theorem size_lt_mid (pre : List UInt8) (b : UInt8) (r : List UInt8) : (pre.length : Int) < ((mkB (pre ++ b :: r)).size : Int) := by rw [size_mk]; exact len_mid ..
theorem u8_lt (b : UInt8) : (b.toNat : Int) < 256 := by have := b.toNat_lt; omega
theorem toUInt8_toNat (b : UInt8) : ((b.toNat : Int)).toNat.toUInt8 = b := by simp
/-- 'for all bytes', as a loop over a string's places. -/
theorem all_loop (F : Nat → ByteArray → Int → Option Bool) (G : Nat → Int → Option Bool) (p : UInt8 → Bool) (hG : ∀ b : UInt8, Ev (fun k => G k b.toNat) (p b))
    (hF : ∀ k s i, F (k + 1) s i = if i < (s.size : Int) then (if 0 ≤ i then (G k (bt s i)).bind fun t => (if t = true then F k s (wrap64 (i + 1)) else some false) else none) else some true) :
    ∀ (r pre : List UInt8), (pre ++ r).length ≤ 9223372036854775806 → Ev (fun k => F k (mkB (pre ++ r)) pre.length) (r.all p)
  | [], pre, _ => Ev.step (f := fun _ => some true) (fun k => by rw [hF, size_mk]; simp) (Ev.now _)
  | b :: r, pre, hl => by
    have ih := all_loop F G p hG hF r (pre ++ [b]) (by rw [← app_mid]; exact hl)
    rw [← app_mid, len_snoc] at ih
    simp at hl
    refine Ev.step (f := fun k => (G k b.toNat).bind fun t => (if t = true then F k (mkB (pre ++ b :: r)) (pre.length + 1) else some false)) (fun k => ?_) ?_
    · rw [hF, if_pos (size_lt_mid ..), if_pos (by omega), bt_mid, wrap_id (by omega) (by omega)]
    refine (hG b).bind ?_
    cases hp : p b
    · simpa [List.all_cons, hp] using Ev.now false
    · simpa [List.all_cons, hp] using ih
theorem all_ev (F : Nat → ByteArray → Int → Option Bool) (G : Nat → Int → Option Bool) (p : UInt8 → Bool) (hG : ∀ b : UInt8, Ev (fun k => G k b.toNat) (p b))
    (hF : ∀ k s i, F (k + 1) s i = if i < (s.size : Int) then (if 0 ≤ i then (G k (bt s i)).bind fun t => (if t = true then F k s (wrap64 (i + 1)) else some false) else none) else some true)
    (s : ByteArray) (hs : s.size ≤ 9223372036854775806) : Ev (fun k => F k s 0) ((bl s).all p) := by
  have := all_loop F G p hG hF (bl s) [] (by simpa [size_bl] using hs)
  simpa [mk_bl] using this
theorem Ev.const {α : Type} {x : Option α} {r : α} (h : x = some r) : Ev (fun _ => x) r := ⟨0, fun _ _ => h⟩

/-! #### Dec -/
theorem strOf_append (a b : List Int) : strOfNums (a ++ b) = strOfNums a ++ strOfNums b := by
  cases h : strOfNums (a ++ b) with | mk d =>
  cases h2 : strOfNums a ++ strOfNums b with | mk d2 =>
  congr 1
  have h3 : (strOfNums (a ++ b)).data.toList = (strOfNums a ++ strOfNums b).data.toList := by simp [strOfNums]
  rw [h, h2] at h3
  exact Array.toList_inj.1 h3
theorem strOf_digit (n : Nat) (h : n < 10) : strOfNums [(wrap64 (48 + (n : Int))) % 256] = mkB [UInt8.ofNat (48 + n)] := by
  have e : (wrap64 (48 + (n : Int))) % 256 = ((48 + n : Nat) : Int) := by rw [wrap_id (by omega) (by omega)]; omega
  rw [e]
  show (⟨(([((48 + n : Nat) : Int)] : List Int).map fun n => UInt8.ofNat n.toNat).toArray⟩ : ByteArray) = _
  rw [List.map_cons, List.map_nil, Int.toNat_natCast]
  rfl
theorem mk_append (a b : List UInt8) : mkB a ++ mkB b = mkB (a ++ b) := by
  cases h : mkB a ++ mkB b with | mk d =>
  have h3 : (mkB a ++ mkB b).data.toList = a ++ b := by simp [mkB]
  rw [h] at h3
  simp only [mkB, ByteArray.mk.injEq]
  apply Array.toList_inj.1
  rw [h3]
theorem nDigits_le15 (n : Nat) (h : n ≤ 999999999999999) : Lib.nDigits n ≤ 15 := by
  by_cases h1 : Lib.nDigits n ≤ 15
  · exact h1
  · have hk : ∀ k u : Nat, u < 10 ^ (k + 1) → Lib.nDigits u ≤ k + 1 := by
      intro k
      induction k with
      | zero => intro u hu; rw [Lib.nDigits_small (by simpa using hu)]; omega
      | succ k ih =>
        intro u hu
        by_cases h10 : u < 10
        · rw [Lib.nDigits_small h10]; omega
        · rw [Lib.nDigits_big h10]
          have := ih (u / 10) (by rw [Nat.pow_succ] at hu; omega)
          omega
    exact hk 14 n (by omega)
theorem specDec_is (n : Nat) (h : n ≤ 999999999999999) : Ev (fun k => spec_DecText.f k (n : Int)) (mkB (Lib.decDigits n)) := by
  induction n using Nat.strongRecOn with
  | _ n ih =>
    have hd : decide ((n : Int) > 999999999999999) = false := decide_eq_false (by omega)
    refine Ev.step (f := fun k => spec_DecText.j0 k (n : Int) false) (fun k => by simp only [spec_DecText.f]; rw [if_neg (by omega), hd]) ?_
    by_cases h10 : n < 10
    · refine Ev.step (f := fun _ => some (mkB (Lib.decDigits n))) (fun k => ?_) (Ev.now _)
      simp only [spec_DecText.j0, Bool.false_eq_true, if_false]
      rw [if_pos (by omega), strOf_digit n h10, Lib.decDigits, dif_pos h10]
    · have ih' := ih (n / 10) (by omega) (by omega)
      have hlen : (mkB (Lib.decDigits (n / 10))).size ≤ 15 := by rw [size_mk, Lib.decDigits_length]; exact nDigits_le15 _ (by omega)
      have e1 : wrap64 (Int.tdiv (n : Int) 10) = ((n / 10 : Nat) : Int) := by
        rw [Int.tdiv_eq_ediv_of_nonneg (by omega), wrap_id (by omega) (by omega)]; rfl
      have e2 : Int.tmod (n : Int) 10 = ((n % 10 : Nat) : Int) := by rw [Int.tmod_eq_emod_of_nonneg (by omega)]; rfl
      refine Ev.step (f := fun k => (spec_DecText.f k ((n / 10 : Nat) : Int)).bind fun t => if t.size + (mkB [UInt8.ofNat (48 + n % 10)]).size ≤ 9223372036854775807 then some (t ++ mkB [UInt8.ofNat (48 + n % 10)]) else none) (fun k => ?_) ?_
      · simp only [spec_DecText.j0, Bool.false_eq_true, if_false]
        rw [if_neg (by omega), e1, e2]
        simp only [Option.bind_some, strOf_digit (n % 10) (show n % 10 < 10 by omega)]
      · refine ih'.bind ?_
        have hs : (mkB [UInt8.ofNat (48 + n % 10)]).size = 1 := by rw [size_mk]; rfl
        have hdd : Lib.decDigits n = Lib.decDigits (n / 10) ++ [UInt8.ofNat (48 + n % 10)] := by rw [Lib.decDigits, dif_neg h10]
        rw [if_pos (by omega), mk_append, hdd]
        exact Ev.now _
theorem itoa_is (n : Nat) (h : n ≤ 999999999999999) : strconv_Itoa.f (n : Int) = some (mkB (Lib.decDigits n)) := by
  unfold strconv_Itoa.f
  rw [if_pos ⟨by omega, by omega⟩]
  unfold Lib.itoa
  rw [if_neg (by omega)]
  rfl

/-! #### ReadDec -/
def isDig (c : UInt8) : Bool := decide (48 ≤ c.toNat) && decide (c.toNat ≤ 57)
def dvalF (acc : Nat) (l : List UInt8) : Nat := l.foldl (fun a c => a * 10 + (c.toNat - 48)) acc
def dval (l : List UInt8) : Nat := dvalF 0 l
theorem dvalF_append (acc : Nat) (l m : List UInt8) : dvalF acc (l ++ m) = dvalF (dvalF acc l) m := by simp [dvalF]
theorem digit_toNat (d : Nat) (h : d < 10) : (UInt8.ofNat (48 + d)).toNat = 48 + d := by simp; omega
theorem dval_dec (n : Nat) : dval (Lib.decDigits n) = n ∧ (Lib.decDigits n).all isDig = true ∧ Lib.decDigits n ≠ [] := by
  induction n using Nat.strongRecOn with
  | _ n ih =>
    by_cases h : n < 10
    · rw [Lib.decDigits, dif_pos h]
      refine ⟨?_, ?_, by simp⟩
      · simp only [dval, dvalF, List.foldl_cons, List.foldl_nil, digit_toNat n h]; omega
      · simp only [List.all_cons, List.all_nil, isDig, digit_toNat n h]; simp; omega
    · obtain ⟨h1, h2, h3⟩ := ih (n / 10) (by omega)
      rw [Lib.decDigits, dif_neg h]
      refine ⟨?_, ?_, by simp⟩
      · rw [dval, dvalF_append, ← dval, h1]
        simp only [dvalF, List.foldl_cons, List.foldl_nil, digit_toNat (n % 10) (by omega)]; omega
      · rw [List.all_append, h2]
        simp only [List.all_cons, List.all_nil, isDig, digit_toNat (n % 10) (show n % 10 < 10 by omega)]; simp; omega
theorem dvalF_lt : ∀ (l : List UInt8) (acc m : Nat), l.all isDig = true → acc < 10 ^ m → dvalF acc l < 10 ^ (m + l.length)
  | [], acc, m, _, h => by simpa [dvalF] using h
  | c :: r, acc, m, ha, h => by
    simp only [List.all_cons, Bool.and_eq_true, isDig, decide_eq_true_eq] at ha
    have := dvalF_lt r (acc * 10 + (c.toNat - 48)) (m + 1) ha.2 (by rw [Nat.pow_succ]; omega)
    rw [List.length_cons, show m + (r.length + 1) = m + 1 + r.length by omega]
    exact this
theorem dval_lt15 (l : List UInt8) (hd : l.all isDig = true) (hl : l.length ≤ 15) : dval l ≤ 999999999999999 := by
  have h1 := dvalF_lt l 0 0 hd (by decide)
  have h2 : 10 ^ (0 + l.length) ≤ 10 ^ 15 := Nat.pow_le_pow_right (by decide) (by omega)
  have h3 : (10 : Nat) ^ 15 = 1000000000000000 := by decide
  unfold dval
  omega
/-- The number of a text, if it is written just so. -/
def rdec (l : List UInt8) : Int × Bool := if Lib.decDigits (dval l) = l ∧ l.length ≤ 15 then ((dval l : Int), true) else (0, false)
theorem rdec_dec (n : Nat) (h : n ≤ 999999999999999) : rdec (Lib.decDigits n) = ((n : Int), true) := by
  unfold rdec
  rw [(dval_dec n).1, if_pos ⟨rfl, by rw [Lib.decDigits_length]; exact nDigits_le15 n h⟩]
theorem l1digit_is (c : UInt8) : spec_l1digit.f (c.toNat : Int) = some (isDig c) := by
  have : c.toNat < 256 := c.toNat_lt
  unfold spec_l1digit.f isDig
  by_cases h1 : 48 ≤ c.toNat
  · rw [if_pos (by omega), decide_eq_true h1, Bool.true_and]; congr 1; exact decide_eq_decide.2 (by omega)
  · rw [if_neg (by omega), decide_eq_false h1, Bool.false_and]
theorem specReadDec_go : ∀ (r pre : List UInt8) (acc : Nat), acc < 10 ^ pre.length → (pre ++ r).length ≤ 15 → r.all isDig = true →
    Ev (fun k => spec_ReadDec.l0 k (mkB (pre ++ r)) (acc : Int) pre.length) (if Lib.decDigits (dvalF acc r) = pre ++ r then ((dvalF acc r : Int), true) else (0, false))
  | [], pre, acc, ha, hl, _ => by
    have h15 : (10 : Nat) ^ pre.length ≤ 10 ^ 15 := Nat.pow_le_pow_right (by decide) (by simpa using hl)
    have h3 : (10 : Nat) ^ 15 = 1000000000000000 := by decide
    have hd := (specDec_is acc (by omega)).bind (f := fun _ (t : ByteArray) => if t.toList = (mkB (pre ++ [])).toList then some ((acc : Int), true) else some ((0 : Int), false)) (r := if Lib.decDigits acc = pre ++ [] then ((acc : Int), true) else ((0 : Int), false)) (by
      simp only [toList_mk]
      split <;> exact Ev.now _)
    refine Ev.step (fun k => ?_) hd
    simp only [spec_ReadDec.l0]
    rw [if_neg (by rw [size_mk]; simp)]
  | c :: r, pre, acc, ha, hl, hd => by
    simp only [List.all_cons, Bool.and_eq_true] at hd
    have hc : 48 ≤ c.toNat ∧ c.toNat ≤ 57 := by have := hd.1; simpa [isDig] using this
    have hl' : pre.length < 15 := by simp at hl; omega
    have h15 : (10 : Nat) ^ pre.length ≤ 10 ^ 14 := Nat.pow_le_pow_right (by decide) (by omega)
    have h3 : (10 : Nat) ^ 14 = 100000000000000 := by decide
    have ih := specReadDec_go r (pre ++ [c]) (acc * 10 + (c.toNat - 48)) (by rw [List.length_append, List.length_singleton, Nat.pow_succ]; omega) (by rw [← app_mid]; exact hl) hd.2
    rw [← app_mid, len_snoc] at ih
    have e : dvalF acc (c :: r) = dvalF (acc * 10 + (c.toNat - 48)) r := rfl
    rw [e]
    refine Ev.step (fun k => ?_) ih
    simp only [spec_ReadDec.l0]
    rw [if_pos (size_lt_mid ..), if_pos (by omega), bt_mid, l1digit_is, hd.1]
    simp only [Option.bind_some, if_true]
    rw [wrap_id (a := (acc : Int) * 10) (by omega) (by omega), wrap_id (by omega) (by omega), wrap_id (a := (pre.length : Int) + 1) (by omega) (by omega)]
    congr 1
    omega
theorem specReadDec_bad : ∀ (r pre : List UInt8) (acc : Int), (pre ++ r).length ≤ 15 → r.all isDig = false → Ev (fun k => spec_ReadDec.l0 k (mkB (pre ++ r)) acc pre.length) ((0 : Int), false)
  | [], pre, acc, _, hd => by simp at hd
  | c :: r, pre, acc, hl, hd => by
    have hw : wrap64 ((pre.length : Int) + 1) = (pre.length : Int) + 1 := by simp at hl; exact wrap_id (by omega) (by omega)
    by_cases hc : isDig c = true
    · have ih := fun acc' => specReadDec_bad r (pre ++ [c]) acc' (by rw [← app_mid]; exact hl) (by simpa [hc] using hd)
      simp only [← app_mid, len_snoc] at ih
      refine Ev.step (fun k => ?_) (ih (wrap64 ((wrap64 (acc * 10)) + (((c.toNat : Int) - 48) % 256))))
      simp only [spec_ReadDec.l0]
      rw [if_pos (size_lt_mid ..), if_pos (by omega), bt_mid, l1digit_is, hc, hw]
      simp only [Option.bind_some, if_true]
    · refine Ev.step (f := fun _ => some ((0 : Int), false)) (fun k => ?_) (Ev.now _)
      simp only [spec_ReadDec.l0]
      rw [if_pos (size_lt_mid ..), if_pos (by omega), bt_mid, l1digit_is]
      simp only [Option.bind_some, if_neg hc]
theorem specReadDec_is (l : List UInt8) (hl : l.length ≤ 1099511627776) : Ev (fun k => spec_ReadDec.f k (mkB l)) (rdec l) := by
  have hj : Ev (fun k => spec_ReadDec.j0 k (mkB l) true) ((0 : Int), false) := Ev.step (f := fun _ => some ((0 : Int), false)) (fun k => by simp [spec_ReadDec.j0]) (Ev.now _)
  unfold spec_ReadDec.f
  by_cases h0 : l = []
  · have : rdec l = (0, false) := by unfold rdec; rw [if_neg (by rintro ⟨h, _⟩; subst h0; exact (dval_dec _).2.2 h)]
    have hz : ((mkB l).size : Int) = 0 := by rw [size_mk, h0]; rfl
    rw [this]
    simp only [if_pos hz]; exact hj
  · have h1 : 1 ≤ l.length := List.length_pos_iff.2 h0
    have hz : ¬ ((mkB l).size : Int) = 0 := by rw [size_mk]; omega
    simp only [if_neg hz]
    by_cases h15 : l.length ≤ 15
    · have e : decide (((mkB l).size : Int) > 15) = false := decide_eq_false (by rw [size_mk]; omega)
      rw [e]
      refine Ev.step (f := fun k => spec_ReadDec.l0 k (mkB l) 0 0) (fun k => by simp [spec_ReadDec.j0]) ?_
      by_cases hd : l.all isDig = true
      · have := specReadDec_go l [] 0 (by decide) (by simpa using h15) hd
        have e2 : rdec l = if Lib.decDigits (dvalF 0 l) = [] ++ l then ((dvalF 0 l : Int), true) else (0, false) := by
          unfold rdec dval
          simp only [List.nil_append]
          by_cases hh : Lib.decDigits (dvalF 0 l) = l
          · rw [if_pos ⟨hh, h15⟩, if_pos hh]
          · rw [if_neg (fun q => hh q.1), if_neg hh]
        rw [e2]; exact this
      · have e2 : rdec l = (0, false) := by
          unfold rdec
          rw [if_neg]
          rintro ⟨hh, _⟩
          exact hd (by have := (dval_dec (dval l)).2.1; rwa [hh] at this)
        rw [e2]
        exact specReadDec_bad l [] 0 (by simpa using h15) (by simpa using hd)
    · have e : decide (((mkB l).size : Int) > 15) = true := decide_eq_true (by rw [size_mk]; omega)
      have e2 : rdec l = (0, false) := by unfold rdec; rw [if_neg (fun q => h15 q.2)]
      rw [e, e2]; exact hj
theorem parse_digits : ∀ (l : List UInt8) (acc m : Nat), l.all isDig = true → acc < 10 ^ m → m + l.length ≤ 15 → Lib.parseUint10 acc l = .ok (dvalF acc l)
  | [], acc, m, _, _, _ => rfl
  | c :: r, acc, m, hd, ha, hm => by
    simp only [List.all_cons, Bool.and_eq_true] at hd
    have hc : 48 ≤ c.toNat ∧ c.toNat ≤ 57 := by have := hd.1; simpa [isDig] using this
    simp only [List.length_cons] at hm
    have h15 : (10 : Nat) ^ m ≤ 10 ^ 14 := Nat.pow_le_pow_right (by decide) (by omega)
    have h3 : (10 : Nat) ^ 14 = 100000000000000 := by decide
    rw [Lib.parseUint10, if_pos hc, if_neg (by omega), if_neg (by omega), parse_digits r _ (m + 1) hd.2 (by rw [Nat.pow_succ]; omega) (by omega)]
    rfl
theorem implReadDec_ok (l : List UInt8) : impl_ReadDec.ok l = rdec l := by
  unfold impl_ReadDec.ok
  by_cases h : Lib.decDigits (dval l) = l ∧ l.length ≤ 15
  · obtain ⟨h1, h2⟩ := h
    have hall : l.all isDig = true := by have := (dval_dec (dval l)).2.1; rwa [h1] at this
    have hne : l ≠ [] := by have := (dval_dec (dval l)).2.2; rwa [h1] at this
    have hlt := dval_lt15 l hall h2
    have hp : Lib.parseMag l = .ok (dval l) := by
      unfold Lib.parseMag
      rw [if_neg hne, parse_digits l 0 0 hall (by decide) (by omega)]; rfl
    have hat : Lib.atoiAll l = .ok (dval l : Int) := by
      cases l with
      | nil => exact absurd rfl hne
      | cons c r =>
        have hc : 48 ≤ c.toNat ∧ c.toNat ≤ 57 := by
          simp only [List.all_cons, Bool.and_eq_true] at hall
          have := hall.1; simpa [isDig] using this
        unfold Lib.atoiAll
        simp only [if_neg (show ¬ (c.toNat = 43 ∨ c.toNat = 45) by omega), hp]
        rw [if_neg (by omega), if_neg (by omega), if_neg (by omega)]
    rw [hat, rdec, if_pos ⟨h1, h2⟩]
    simp only []
    rw [if_pos ⟨by omega, by omega, by unfold Lib.itoa; rw [if_neg (by omega), Int.toNat_natCast]; exact h1⟩]
  · have hr : rdec l = (0, false) := by unfold rdec; rw [if_neg h]
    rw [hr]
    cases hA : Lib.atoiAll l with
    | «syntax» => rfl
    | range => rfl
    | ok v =>
      simp only []
      rw [if_neg]
      rintro ⟨h0, h1, h2⟩
      obtain ⟨n, rfl⟩ : ∃ n : Nat, v = n := ⟨v.toNat, by omega⟩
      have h3 : Lib.decDigits n = l := by rw [← h2]; unfold Lib.itoa; rw [if_neg (by omega), Int.toNat_natCast]
      have h4 : dval l = n := by rw [← h3]; exact (dval_dec n).1
      exact h ⟨by rw [h4, h3], by rw [← h3, Lib.decDigits_length]; exact nDigits_le15 n (by omega)⟩
theorem implReadDec_is (l : List UInt8) (hl : l.length ≤ 1099511627776) : impl_ReadDec.f (mkB l) = some (rdec l) := by
  unfold impl_ReadDec.f
  rw [if_pos (by rw [size_mk]; exact hl), ← implReadDec_ok]
  rfl

/-! #### ReadId -/
theorem bl_length0 (a : ByteArray) : (bl a).length = a.size := by simp [bl]
def urn : List UInt8 := [60, 117, 114, 110, 58, 115, 116, 105, 108, 108, 114, 111, 111, 109, 58]
theorem lit_mk (l : List UInt8) : (⟨l.toArray⟩ : ByteArray) = mkB l := rfl
theorem specIdText_is (n : Nat) (h : n ≤ 999999999999999) : Ev (fun k => spec_IdText.f k (n : Int)) (if n ≤ 999999 then mkB (urn ++ Lib.decDigits n ++ [62]) else (⟨#[]⟩ : ByteArray)) := by
  unfold spec_IdText.f
  simp only [if_neg (show ¬ (n : Int) < 0 by omega)]
  by_cases h1 : (n : Int) > 999999
  · simp only [if_pos h1, if_neg (show ¬ n ≤ 999999 by omega)]; exact Ev.now _
  · simp only [if_neg h1, if_pos (show n ≤ 999999 by omega)]
    have hlen : (mkB (Lib.decDigits n)).size ≤ 15 := by rw [size_mk, Lib.decDigits_length]; exact nDigits_le15 _ h
    have hsz : ((⟨#[60, 117, 114, 110, 58, 115, 116, 105, 108, 108, 114, 111, 111, 109, 58]⟩ : ByteArray) ++ mkB (Lib.decDigits n)).size + 1 ≤ 9223372036854775807 := by
      rw [ByteArray.size_append, show (⟨#[60, 117, 114, 110, 58, 115, 116, 105, 108, 108, 114, 111, 111, 109, 58]⟩ : ByteArray).size = 15 from rfl]; omega
    refine (specDec_is n h).bind ?_
    simp only [if_pos (show 15 + (mkB (Lib.decDigits n)).size ≤ 9223372036854775807 by omega), if_pos hsz]
    have e : mkB (urn ++ Lib.decDigits n ++ [62]) = (⟨#[60, 117, 114, 110, 58, 115, 116, 105, 108, 108, 114, 111, 111, 109, 58]⟩ : ByteArray) ++ mkB (Lib.decDigits n) ++ (⟨#[62]⟩ : ByteArray) := by
      rw [← mk_append, ← mk_append]; rfl
    rw [e]; exact Ev.now _
/-- The number of a record's name. -/
def rid (l : List UInt8) : Int × Bool :=
  if 17 ≤ l.length ∧ l.length ≤ 22 ∧ (rdec ((l.drop 15).take (l.length - 1 - 15))).2 = true ∧ (rdec ((l.drop 15).take (l.length - 1 - 15))).1 ≤ 999999 ∧ urn ++ Lib.decDigits (rdec ((l.drop 15).take (l.length - 1 - 15))).1.toNat ++ [62] = l
  then ((rdec ((l.drop 15).take (l.length - 1 - 15))).1, true) else (0, false)
theorem rdec_cases (l : List UInt8) : rdec l = (0, false) ∨ ∃ n : Nat, n ≤ 999999999999999 ∧ rdec l = ((n : Int), true) ∧ Lib.decDigits n = l := by
  by_cases h : Lib.decDigits (dval l) = l ∧ l.length ≤ 15
  · refine .inr ⟨dval l, dval_lt15 l (by have := (dval_dec (dval l)).2.1; rwa [h.1] at this) h.2, by unfold rdec; rw [if_pos h], h.1⟩
  · exact .inl (by unfold rdec; rw [if_neg h])
theorem specReadId_is (l : List UInt8) (hl : l.length ≤ 1048576) : Ev (fun k => spec_ReadId.f k (mkB l)) (rid l) := by
  have hj : Ev (fun k => spec_ReadId.j0 k (mkB l) true) ((0 : Int), false) := Ev.step (f := fun _ => some ((0 : Int), false)) (fun k => by simp [spec_ReadId.j0]) (Ev.now _)
  unfold spec_ReadId.f
  by_cases h17 : ((mkB l).size : Int) < 17
  · have : rid l = (0, false) := by unfold rid; rw [if_neg]; rintro ⟨h, _⟩; rw [size_mk] at h17; omega
    rw [this]; simp only [if_pos h17]; exact hj
  · simp only [if_neg h17]
    rw [size_mk] at h17
    by_cases h22 : l.length ≤ 22
    · have e : decide (((mkB l).size : Int) > 22) = false := decide_eq_false (by rw [size_mk]; omega)
      rw [e]
      have hw : wrap64 (((mkB l).size : Int) - 1) = ((l.length - 1 : Nat) : Int) := by rw [size_mk, wrap_id (by omega) (by omega)]; omega
      have hx : (mkB l).extract 15 ((l.length - 1 : Nat) : Int).toNat = mkB ((l.drop 15).take (l.length - 1 - 15)) := by rw [extract_mk, Int.toNat_natCast]
      refine Ev.step (f := fun k => (spec_ReadDec.f k (mkB ((l.drop 15).take (l.length - 1 - 15)))).bind fun b => if b.2 = true then ((spec_IdText.f k b.1).bind fun t => if t.toList = (mkB l).toList then some (b.1, true) else some (0, false)) else some (0, false)) (fun k => ?_) ?_
      · simp only [spec_ReadId.j0, Bool.false_eq_true, if_false]
        rw [hw, hx, if_pos (by omega), if_pos (by rw [size_mk]; omega)]
      · refine (specReadDec_is _ (by rw [List.length_take]; omega)).bind ?_
        rcases rdec_cases ((l.drop 15).take (l.length - 1 - 15)) with hr | ⟨n, hn, hr, hd⟩
        · have : rid l = (0, false) := by unfold rid; rw [hr, if_neg]; rintro ⟨_, _, h, _⟩; cases h
          rw [this, hr]; simp only [Bool.false_eq_true, if_false]; exact Ev.now _
        · rw [hr]
          simp only [if_true]
          refine (specIdText_is n hn).bind ?_
          by_cases hq : n ≤ 999999 ∧ urn ++ Lib.decDigits n ++ [62] = l
          · have : rid l = ((n : Int), true) := by
              unfold rid; rw [hr, if_pos ⟨by omega, h22, rfl, by simpa using (by omega : (n : Int) ≤ 999999), by rw [Int.toNat_natCast]; exact hq.2⟩]
            rw [this, if_pos hq.1, hq.2]
            simp only [if_true]; exact Ev.now _
          · have : rid l = (0, false) := by
              unfold rid; rw [hr, if_neg]; rintro ⟨_, _, _, h1, h2⟩; exact hq ⟨by simp only [] at h1; omega, by rw [Int.toNat_natCast] at h2; exact h2⟩
            rw [this]
            have hne : ¬ (if n ≤ 999999 then mkB (urn ++ Lib.decDigits n ++ [62]) else (⟨#[]⟩ : ByteArray)).toList = (mkB l).toList := by
              split
              · rename_i h; rw [toList_mk, toList_mk]; exact fun hh => hq ⟨h, hh⟩
              · rw [toList_mk]
                intro hh
                have : (mkB []).toList = l := hh
                rw [toList_mk] at this
                rw [← this] at h17
                simp at h17
            simp only [if_neg hne]; exact Ev.now _
    · have e : decide (((mkB l).size : Int) > 22) = true := decide_eq_true (by rw [size_mk]; omega)
      have : rid l = (0, false) := by unfold rid; rw [if_neg]; rintro ⟨_, h, _⟩; exact h22 h
      rw [e, this]; exact hj
theorem cutPrefix_is (l p : List UInt8) : strings_CutPrefix.f (mkB l) (mkB p) = some (if p <+: l then (mkB (l.drop p.length), true) else (mkB l, false)) := by
  unfold strings_CutPrefix.f stringslite_CutPrefix.f stringslite_HasPrefix.f
  simp only [size_mk]
  by_cases h : p <+: l
  · obtain ⟨m, rfl⟩ := h
    rw [if_pos (by simp; omega), if_pos (by omega), if_pos (by simp; omega)]
    have hx : (((mkB (p ++ m)).extract 0 ((p.length : Int)).toNat).toList == (mkB p).toList) = true := by
      rw [extract_mk, Int.toNat_natCast, toList_mk, toList_mk]; simp
    rw [hx]
    simp only [Option.bind_some, if_true]
    rw [if_pos (by omega), if_pos (by simp; omega), if_pos (List.prefix_append _ _), extract_mk, Int.toNat_natCast]
    simp
  · rw [if_neg h]
    by_cases hlen : (l.length : Int) ≥ (p.length : Int)
    · rw [if_pos hlen, if_pos (by omega), if_pos hlen]
      have hx : (((mkB l).extract 0 ((p.length : Int)).toNat).toList == (mkB p).toList) = false := by
        rw [extract_mk, Int.toNat_natCast, toList_mk, toList_mk]
        refine beq_eq_false_iff_ne.2 fun hh => h ?_
        rw [← hh]; simp [List.take_prefix]
      rw [hx]
      simp
    · rw [if_neg hlen]; simp
theorem cutSuffix_is (l p : List UInt8) (hl : l.length ≤ 1048576) (hp : p.length ≤ 1048576) : strings_CutSuffix.f (mkB l) (mkB p) = some (if p <:+ l then (mkB (l.take (l.length - p.length)), true) else (mkB l, false)) := by
  unfold strings_CutSuffix.f stringslite_CutSuffix.f stringslite_HasSuffix.f
  simp only [size_mk]
  by_cases hlen : (l.length : Int) ≥ (p.length : Int)
  · have hw : wrap64 ((l.length : Int) - (p.length : Int)) = ((l.length - p.length : Nat) : Int) := by rw [wrap_id (by omega) (by omega)]; omega
    rw [if_pos hlen, hw, if_pos (by omega), if_pos (by omega), extract_mk, toList_mk, toList_mk, Int.toNat_natCast]
    have hx : ((l.drop (l.length - p.length)).take (l.length - (l.length - p.length)) == p) = decide (p <:+ l) := by
      rw [List.take_of_length_le (by rw [List.length_drop]; omega)]
      by_cases h : p <:+ l
      · obtain ⟨m, rfl⟩ := h
        simp
      · rw [decide_eq_false h]
        refine beq_eq_false_iff_ne.2 fun hh => h ?_
        rw [← hh]; exact List.drop_suffix _ _
    rw [hx]
    by_cases h : p <:+ l
    · rw [decide_eq_true h, if_pos h]
      simp only [Option.bind_some, if_true]
      rw [if_pos (by omega), if_pos (by omega), extract_mk]
      simp
    · rw [decide_eq_false h, if_neg h]; simp
  · have h : ¬ p <:+ l := fun h => hlen (by have := h.length_le; omega)
    rw [if_neg hlen, if_neg h]; simp
theorem implReadId_is (l : List UInt8) (hl : l.length ≤ 1048576) : impl_ReadId.f (mkB l) = some (rid l) := by
  unfold impl_ReadId.f
  have e1 : (⟨#[60, 117, 114, 110, 58, 115, 116, 105, 108, 108, 114, 111, 111, 109, 58]⟩ : ByteArray) = mkB urn := rfl
  have e2 : (⟨#[62]⟩ : ByteArray) = mkB [62] := rfl
  rw [e1, e2, cutPrefix_is]
  by_cases h1 : urn <+: l
  · obtain ⟨m, rfl⟩ := h1
    have hm : m.length ≤ 1048576 := by rw [List.length_append] at hl; omega
    rw [if_pos (List.prefix_append _ _)]
    simp only [Option.bind_some, List.drop_left]
    rw [cutSuffix_is m [62] hm (by decide)]
    by_cases h2 : [62] <:+ m
    · obtain ⟨i, rfl⟩ := h2
      have hi : i.length ≤ 1048576 := by rw [List.length_append] at hm; omega
      have hx : (i ++ [62]).take ((i ++ [62]).length - ([62] : List UInt8).length) = i := by simp
      rw [if_pos (List.suffix_append _ _)]
      rw [hx]
      simp only [Option.bind_some, if_true]
      rw [implReadDec_is i (by omega)]
      have hlen : (urn ++ (i ++ [62])).length = i.length + 16 := by simp [urn]
      have hin : ((urn ++ (i ++ [62])).drop 15).take ((urn ++ (i ++ [62])).length - 1 - 15) = i := by
        have h15 : (urn ++ (i ++ [62])).drop 15 = i ++ [62] := by simp [urn]
        rw [h15, hlen]; simp
      unfold rid
      rw [hin, hlen]
      rcases rdec_cases i with hr | ⟨n, hn, hr, hd⟩
      · rw [hr]; simp
      · rw [hr]
        simp only [Option.bind_some, if_true]
        unfold impl_isId.f impl_within.f
        rw [if_pos (by omega)]
        simp only [Option.bind_some]
        by_cases hq : n ≤ 999999
        · have hl6 : i.length ≤ 6 := by
            rw [← hd, Lib.decDigits_length]
            have hk : ∀ k u : Nat, u < 10 ^ (k + 1) → Lib.nDigits u ≤ k + 1 := by
              intro k
              induction k with
              | zero => intro u hu; rw [Lib.nDigits_small (by simpa using hu)]; omega
              | succ k ih =>
                intro u hu
                by_cases h10 : u < 10
                · rw [Lib.nDigits_small h10]; omega
                · rw [Lib.nDigits_big h10]
                  have := ih (u / 10) (by rw [Nat.pow_succ] at hu; omega)
                  omega
            exact hk 5 n (by omega)
          have hl1 : 1 ≤ i.length := by rw [← hd, Lib.decDigits_length]; exact Lib.nDigits_pos n
          rw [decide_eq_true (by omega), if_pos rfl, if_pos ⟨by omega, by omega, trivial, by omega, by rw [Int.toNat_natCast, hd]; simp⟩]
        · rw [decide_eq_false (by omega), if_neg (by simp), if_neg]
          rintro ⟨_, _, _, h, _⟩
          exact hq (by omega)
    · rw [if_neg h2]
      simp only [Option.bind_some, Bool.false_eq_true, if_false]
      rw [implReadDec_is m (by omega)]
      simp only [Option.bind_some]
      have : rid (urn ++ m) = (0, false) := by
        unfold rid; rw [if_neg]; rintro ⟨_, _, _, _, h⟩
        rw [List.append_assoc] at h
        have := List.append_cancel_left h
        exact h2 ⟨_, this⟩
      rw [this]; simp
  · rw [if_neg h1]
    simp only [Option.bind_some, Bool.false_eq_true, if_false]
    rw [cutSuffix_is l [62] hl (by decide)]
    have hr : rid l = (0, false) := by
      unfold rid; rw [if_neg]; rintro ⟨_, _, _, _, h⟩
      rw [List.append_assoc] at h
      exact h1 ⟨_, h⟩
    rw [hr]
    by_cases h2 : [62] <:+ l
    · rw [if_pos h2]
      simp only [Option.bind_some]
      rw [implReadDec_is _ (by rw [List.length_take]; omega)]
      rfl
    · rw [if_neg h2]
      simp only [Option.bind_some]
      rw [implReadDec_is _ (by omega)]
      rfl

theorem FnExactReadId : laws_FnExactReadId.Pure := by
  intro s hs
  refine Ev.rounds ?_
  unfold laws_FnExactReadId.f
  by_cases hn2 : (s.size : Int) > 1048576
  · simp only [if_pos hn2]; exact Ev.now _
  simp only [if_neg hn2]
  have hl : (bl s).length ≤ 1048576 := by have := bl_length0 s; omega
  have h1 := specReadId_is (bl s) hl
  have h2 := implReadId_is (bl s) hl
  rw [mk_bl] at h1 h2
  refine h1.bind ?_
  simp only [h2, Option.bind_some, if_true, bne_self_eq_false, Bool.false_eq_true, if_false]
  exact Ev.now true

end Go.Proofs.YtnfjjbpochmhpaaDoor.Pure
