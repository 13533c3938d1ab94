/- ReadField of the program and of the reference agree, and the call returns true, for every string. No condition. -/
import Derived.Test.YtnfjjbpochmhpaaGFnExactReadFieldx5
import Derived.Laws.Strings
import Derived.Lib.Index
import Derived.Lib.IndexMore
import Derived.OpenShut
namespace Go.Proofs.Ytnfjjbpochmhpaa.Pure
open Go.RowKit Go.Proofs.Ytnfjjbpochmhpaa.GFnExactReadField Go.Proofs.YtnfjjbpochmhpaaW.PrintWords Go.Proofs.YtnfjjbpochmhpaaW.PrintLast Go.Proofs.YtnfjjbpochmhpaaW.PrintMore
set_option linter.unusedVariables false
set_option linter.unusedSimpArgs false

/-! #### Bytes -/
/-- More rounds: an Ev of a function of its own. -/
theorem Ev.mono1 {α : Type} {g : Nat → Option α} {r : α} (K : Nat) (h : ∀ k, g (k + K) = some r) : Ev g r :=
  ⟨K, fun k hk => by obtain ⟨m, rfl⟩ : ∃ m, k = m + K := ⟨k - K, by omega⟩; exact h m⟩
theorem toList_inj {a b : ByteArray} (h : a.toList = b.toList) : a = b := by
  rw [ByteArray.toList_eq, ByteArray.toList_eq] at h
  cases a; cases b; simp_all
theorem getD_mid {α : Type} (pre : List α) (x : α) (r : List α) (z : α) : (pre ++ x :: r).getD ((pre.length : Int).toNat) z = x := by simp [List.getD]
theorem wrap_succ {n : Nat} (h : n < 9223372036854775807) : wrap64 ((n : Int) + 1) = ((n + 1 : Nat) : Int) := by unfold wrap64; omega
theorem wrap_id {a : Int} (h1 : -9223372036854775808 ≤ a) (h2 : a ≤ 9223372036854775807) : wrap64 a = a := by unfold wrap64; omega
theorem len_mid {α : Type} (pre : List α) (x : α) (r : List α) : (pre.length : Int) < ((pre ++ x :: r).length : Int) := by simp; omega
theorem app_mid {α : Type} (pre : List α) (x : α) (r : List α) : pre ++ x :: r = (pre ++ [x]) ++ r := by simp
theorem len_snoc {α : Type} (pre : List α) (x : α) : ((pre ++ [x]).length : Int) = (pre.length : Int) + 1 := by simp
theorem toList_length (s : ByteArray) : s.toList.length = s.size := by rw [ByteArray.toList_eq, Array.length_toList]; rfl
theorem size_pos_iff (s : ByteArray) : (s.toList = ([] : List UInt8)) ↔ (s.size : Int) = 0 := by
  rw [← List.length_eq_zero_iff, toList_length]; omega
theorem size_strOf (xs : List Int) : (strOfNums xs).size = xs.length := by
  show (strOfNums xs).data.size = _
  simp [strOfNums]
theorem length_bytesOf (s : ByteArray) : (bytesOf s).length = s.size := bytesOf_length s
theorem less_irrefl : ∀ l : List UInt8, Op.bytesLess l l = false
  | [] => rfl
  | a :: l => by simp [Op.bytesLess, less_irrefl l]
theorem less_total : ∀ l m : List UInt8, l ≠ m → Op.bytesLess l m = !Op.bytesLess m l
  | [], [], h => absurd rfl h
  | [], _ :: _, _ => rfl
  | _ :: _, [], _ => rfl
  | a :: l, b :: m, h => by
    by_cases e : a = b
    · subst e
      have := less_total l m (fun e => h (by rw [e]))
      simp [Op.bytesLess, this]
    · have hne : (a == b) = false := by simpa using e
      have hne' : (b == a) = false := by simpa using fun x => e x.symm
      simp only [Op.bytesLess, hne, hne', Bool.false_and, Bool.or_false]
      rcases Nat.lt_trichotomy a.toNat b.toNat with h1 | h1 | h1
      · have x1 : a < b := UInt8.lt_iff_toNat_lt.2 h1
        have x2 : ¬ b < a := fun x => by have := UInt8.lt_iff_toNat_lt.1 x; omega
        simp [x1, x2]
      · exact absurd (UInt8.toNat_inj.1 h1) e
      · have x1 : b < a := UInt8.lt_iff_toNat_lt.2 h1
        have x2 : ¬ a < b := fun x => by have := UInt8.lt_iff_toNat_lt.1 x; omega
        simp [x1, x2]

/-! #### Str -/
def mkB (l : List UInt8) : ByteArray := ⟨l.toArray⟩
def bl (s : ByteArray) : List UInt8 := s.data.toList
theorem mk_bl (s : ByteArray) : mkB (bl s) = s := by cases s; simp [mkB, bl]
theorem bl_mk (l : List UInt8) : bl (mkB l) = l := by simp [mkB, bl]
theorem size_mk (l : List UInt8) : (mkB l).size = l.length := by show (mkB l).data.size = _; simp [mkB]
theorem size_bl (s : ByteArray) : (bl s).length = s.size := by rw [bl, Array.length_toList]; rfl
theorem toList_bl (s : ByteArray) : s.toList = bl s := ByteArray.toList_eq s
theorem toList_mk (l : List UInt8) : (mkB l).toList = l := by rw [toList_bl, bl_mk]
theorem mkB_inj {l m : List UInt8} (h : mkB l = mkB m) : l = m := by rw [← bl_mk l, h, bl_mk]
theorem getB (l : List UInt8) (i : Nat) (h : i < (mkB l).size) : (mkB l)[i]'h = l[i]'(by rwa [size_mk] at h) := by
  show (mkB l).data[i]'h = _
  simp [mkB]
theorem bt_at_ (l : List UInt8) (i : Nat) (h : i < l.length) : bt (mkB l) (i : Int) = ((l[i]'h).toNat : Int) := by
  unfold bt
  rw [dif_pos (by rw [size_mk]; simpa using h), getB]
  simp
theorem bt_mid (pre : List UInt8) (b : UInt8) (r : List UInt8) : bt (mkB (pre ++ b :: r)) (pre.length : Int) = (b.toNat : Int) := by
  rw [bt_at_ _ _ (by simp)]
  simp
theorem extract_mk (l : List UInt8) (i j : Nat) : (mkB l).extract i j = mkB ((l.drop i).take (j - i)) := by
  apply toList_inj
  rw [toList_mk, toList_bl, bl, ByteArray.data_extract, Array.toList_extract]
  simp [mkB, List.extract]
theorem drop_mid (pre : List UInt8) (b : UInt8) (r : List UInt8) : (pre ++ b :: r).drop (pre.length + 1) = r := by
  rw [app_mid, List.drop_left' (by simp)]
theorem size_lt_mid (pre : List UInt8) (b : UInt8) (r : List UInt8) : (pre.length : Int) < ((mkB (pre ++ b :: r)).size : Int) := by rw [size_mk]; exact len_mid ..
theorem u8_lt (b : UInt8) : (b.toNat : Int) < 256 := by have := b.toNat_lt; omega
theorem toUInt8_toNat (b : UInt8) : ((b.toNat : Int)).toNat.toUInt8 = b := by simp
/-- 'for all bytes', as a loop over a string's places. -/
theorem all_loop (F : Nat → ByteArray → Int → Option Bool) (G : Nat → Int → Option Bool) (p : UInt8 → Bool) (hG : ∀ b : UInt8, Ev (fun k => G k b.toNat) (p b))
    (hF : ∀ k s i, F (k + 1) s i = if i < (s.size : Int) then (if 0 ≤ i then (G k (bt s i)).bind fun t => (if t = true then F k s (wrap64 (i + 1)) else some false) else none) else some true) :
    ∀ (r pre : List UInt8), (pre ++ r).length ≤ 9223372036854775806 → Ev (fun k => F k (mkB (pre ++ r)) pre.length) (r.all p)
  | [], pre, _ => Ev.step (f := fun _ => some true) (fun k => by rw [hF, size_mk]; simp) (Ev.now _)
  | b :: r, pre, hl => by
    have ih := all_loop F G p hG hF r (pre ++ [b]) (by rw [← app_mid]; exact hl)
    rw [← app_mid, len_snoc] at ih
    simp at hl
    refine Ev.step (f := fun k => (G k b.toNat).bind fun t => (if t = true then F k (mkB (pre ++ b :: r)) (pre.length + 1) else some false)) (fun k => ?_) ?_
    · rw [hF, if_pos (size_lt_mid ..), if_pos (by omega), bt_mid, wrap_id (by omega) (by omega)]
    refine (hG b).bind ?_
    cases hp : p b
    · simpa [List.all_cons, hp] using Ev.now false
    · simpa [List.all_cons, hp] using ih
theorem all_ev (F : Nat → ByteArray → Int → Option Bool) (G : Nat → Int → Option Bool) (p : UInt8 → Bool) (hG : ∀ b : UInt8, Ev (fun k => G k b.toNat) (p b))
    (hF : ∀ k s i, F (k + 1) s i = if i < (s.size : Int) then (if 0 ≤ i then (G k (bt s i)).bind fun t => (if t = true then F k s (wrap64 (i + 1)) else some false) else none) else some true)
    (s : ByteArray) (hs : s.size ≤ 9223372036854775806) : Ev (fun k => F k s 0) ((bl s).all p) := by
  have := all_loop F G p hG hF (bl s) [] (by simpa [size_bl] using hs)
  simpa [mk_bl] using this
theorem Ev.const {α : Type} {x : Option α} {r : α} (h : x = some r) : Ev (fun _ => x) r := ⟨0, fun _ _ => h⟩

/-! #### Trim -/
def wh (b : UInt8) : Bool := decide (b.toNat = 32) || decide (b.toNat = 9)
def trimB (l : List UInt8) : List UInt8 := ((l.dropWhile wh).reverse.dropWhile wh).reverse
theorem l1white_is (b : UInt8) : spec_l1white.f (b.toNat : Int) = some (wh b) := by
  unfold spec_l1white.f wh
  by_cases h : b.toNat = 32
  · rw [if_pos (by omega)]; simp [h]
  · rw [if_neg (by omega)]
    by_cases h' : b.toNat = 9
    · simp [h']
    · simp [h, h']; omega
theorem isSpace_is (b : UInt8) : impl_isSpace.f (b.toNat : Int) = some (wh b) := l1white_is b
theorem take_mid (pre m suf : List UInt8) : ((pre ++ (m ++ suf)).drop pre.length).take (pre.length + m.length - pre.length) = m := by simp
theorem bt_mid2 (pre m : List UInt8) (b : UInt8) (suf : List UInt8) (i : Int) (hi : i = (pre.length : Int) + (m.length : Int)) : bt (mkB (pre ++ (m ++ b :: suf))) i = (b.toNat : Int) := by
  have := bt_mid (pre ++ m) b suf
  rw [List.append_assoc] at this
  rw [hi, ← this]; simp
theorem specTrim_end : ∀ (m pre suf : List UInt8), (pre ++ (m.reverse ++ suf)).length ≤ 9223372036854775806 →
    Ev (fun k => spec_Trim.l1 k (mkB (pre ++ (m.reverse ++ suf))) pre.length ((pre.length : Int) + m.length)) (mkB (m.dropWhile wh).reverse)
  | [], pre, suf, hl => by
    refine Ev.step (f := fun _ => some (mkB [])) (fun k => ?_) (by simpa using Ev.now (mkB []))
    simp only [spec_Trim.l1]
    simp at hl
    rw [if_neg (by simp), if_pos (by omega), if_pos (by simp), if_pos (by rw [size_mk]; simp <;> omega), extract_mk]
    simp
  | b :: m, pre, suf, hl => by
    have e : pre ++ ((b :: m).reverse ++ suf) = pre ++ (m.reverse ++ b :: suf) := by simp
    rw [e] at hl ⊢
    have hl2 := hl
    simp at hl2
    have hb : bt (mkB (pre ++ (m.reverse ++ b :: suf))) ((pre.length : Int) + m.length) = (b.toNat : Int) := bt_mid2 pre m.reverse b suf _ (by simp)
    have hw : wrap64 ((pre.length : Int) + ((b :: m).length : Int) - 1) = (pre.length : Int) + m.length := by rw [wrap_id (by simp <;> omega) (by simp <;> omega)]; simp <;> omega
    by_cases hwb : wh b = true
    · have ih := specTrim_end m pre (b :: suf) hl
      rw [List.dropWhile_cons, if_pos hwb]
      refine Ev.step (fun k => ?_) ih
      simp only [spec_Trim.l1]
      rw [if_pos (by simp <;> omega), hw, if_pos (by omega), if_pos (by rw [size_mk]; simp <;> omega), hb, l1white_is, hwb]
      simp
    · rw [List.dropWhile_cons, if_neg hwb]
      have hwb' : wh b = false := by simpa using hwb
      refine Ev.step (f := fun _ => some (mkB (b :: m).reverse)) (fun k => ?_) (Ev.now _)
      simp only [spec_Trim.l1]
      rw [if_pos (by simp <;> omega), hw, if_pos (by omega), if_pos (by rw [size_mk]; simp <;> omega), hb, l1white_is, hwb']
      simp only [Option.bind_some, Bool.false_eq_true, if_false]
      rw [if_pos (by omega), if_pos (by simp <;> omega), if_pos (by rw [size_mk]; simp <;> omega), extract_mk]
      have hn : ((pre.length : Int) + ((b :: m).length : Int)).toNat = pre.length + (b :: m).reverse.length := by simp; omega
      rw [hn, Int.toNat_natCast, ← e, take_mid]
theorem specTrim_go : ∀ (r pre : List UInt8), (pre ++ r).length ≤ 9223372036854775806 →
    Ev (fun k => spec_Trim.l0 k (mkB (pre ++ r)) pre.length) (mkB (trimB r))
  | [], pre, hl => by
    have := specTrim_end [] pre [] (by simpa using hl)
    refine Ev.step (f := fun k => spec_Trim.j1 k (mkB (pre ++ [])) pre.length) (fun k => by simp only [spec_Trim.l0]; rw [if_neg (by rw [size_mk]; simp)]) ?_
    refine Ev.step (f := fun k => spec_Trim.l1 k (mkB (pre ++ [])) pre.length ((mkB (pre ++ [])).size : Int)) (fun k => by simp only [spec_Trim.j1]) ?_
    rw [size_mk]
    simpa [trimB] using this
  | b :: r, pre, hl => by
    have hl2 := hl
    simp at hl2
    by_cases hwb : wh b = true
    · have ih := specTrim_go r (pre ++ [b]) (by rw [← app_mid]; exact hl)
      rw [← app_mid, len_snoc] at ih
      have et : trimB (b :: r) = trimB r := by simp [trimB, List.dropWhile_cons, hwb]
      rw [et]
      refine Ev.step (fun k => ?_) ih
      simp only [spec_Trim.l0]
      rw [if_pos (size_lt_mid ..), if_pos (by omega), bt_mid, l1white_is, hwb, wrap_id (by omega) (by omega)]
      simp
    · have hwb' : wh b = false := by simpa using hwb
      have := specTrim_end (b :: r).reverse pre [] (by simpa using hl)
      refine Ev.step (f := fun k => spec_Trim.j1 k (mkB (pre ++ b :: r)) pre.length) (fun k => ?_) ?_
      · simp only [spec_Trim.l0]
        rw [if_pos (size_lt_mid ..), if_pos (by omega), bt_mid, l1white_is, hwb']
        simp
      refine Ev.step (f := fun k => spec_Trim.l1 k (mkB (pre ++ b :: r)) pre.length ((mkB (pre ++ b :: r)).size : Int)) (fun k => by simp only [spec_Trim.j1]) ?_
      have e2 : ((mkB (pre ++ b :: r)).size : Int) = (pre.length : Int) + ((b :: r).reverse.length : Int) := by rw [size_mk]; simp
      rw [e2]
      have et : trimB (b :: r) = ((b :: r).reverse.dropWhile wh).reverse := by simp only [trimB, List.dropWhile_cons, hwb', Bool.false_eq_true, if_false]
      rw [et]
      simpa using this
theorem specTrim_is (s : ByteArray) (hs : s.size ≤ 9223372036854775806) : Ev (fun k => spec_Trim.f k s) (mkB (trimB (bl s))) := by
  have := specTrim_go (bl s) [] (by simpa [size_bl] using hs)
  simpa [mk_bl, spec_Trim.f] using this
theorem implTrim_end : ∀ (m : List UInt8), m.length ≤ 9223372036854775806 → Ev (fun k => impl_Trim.l1 k (mkB m.reverse)) (mkB (m.dropWhile wh).reverse)
  | [], _ => Ev.step (f := fun _ => some (mkB [])) (fun k => by simp [impl_Trim.l1, toList_mk]) (by simpa using Ev.now (mkB []))
  | b :: m, hl => by
    simp at hl
    have hw : wrap64 (((mkB (b :: m).reverse).size : Int) - 1) = (m.length : Int) := by rw [size_mk, wrap_id (by simp <;> omega) (by simp <;> omega)]; simp
    have hb : bt (mkB (b :: m).reverse) (m.length : Int) = (b.toNat : Int) := by
      have := bt_mid m.reverse b []
      simpa using this
    have hcell : ∀ k, impl_Trim.l1 (k + 1) (mkB (b :: m).reverse) = if wh b = true then impl_Trim.l1 k (mkB m.reverse) else some (mkB (b :: m).reverse) := by
      intro k
      simp only [impl_Trim.l1]
      rw [if_neg (by rw [toList_mk]; simp), hw, if_pos (by omega), if_pos (by rw [size_mk]; simp <;> omega), hb, isSpace_is]
      simp only [Option.bind_some]
      split
      · rw [if_pos (by rw [size_mk]; simp <;> omega), extract_mk]
        congr 2
        simp
      · rfl
    by_cases hwb : wh b = true
    · rw [List.dropWhile_cons, if_pos hwb]
      exact Ev.step (fun k => by rw [hcell, if_pos hwb]) (implTrim_end m (by omega))
    · rw [List.dropWhile_cons, if_neg hwb]
      exact Ev.step (f := fun _ => some (mkB (b :: m).reverse)) (fun k => by rw [hcell, if_neg hwb]) (Ev.now _)
theorem implTrim_go : ∀ (r : List UInt8), r.length ≤ 9223372036854775806 → Ev (fun k => impl_Trim.l0 k (mkB r)) (mkB (trimB r))
  | [], _ => by
    have := implTrim_end [] (by simp)
    refine Ev.step (f := fun k => impl_Trim.j1 k (mkB [])) (fun k => by simp [impl_Trim.l0, toList_mk]) ?_
    exact Ev.step (f := fun k => impl_Trim.l1 k (mkB [])) (fun k => by simp only [impl_Trim.j1]) (by simpa [trimB] using this)
  | b :: r, hl => by
    simp at hl
    have hb : bt (mkB (b :: r)) 0 = (b.toNat : Int) := by simpa using bt_mid [] b r
    by_cases hwb : wh b = true
    · have ih := implTrim_go r (by omega)
      have et : trimB (b :: r) = trimB r := by simp [trimB, List.dropWhile_cons, hwb]
      rw [et]
      refine Ev.step (fun k => ?_) ih
      simp only [impl_Trim.l0]
      rw [if_neg (by rw [toList_mk]; simp), if_pos (by rw [size_mk]; simp <;> omega), hb, isSpace_is, hwb]
      simp only [Option.bind_some, if_true]
      rw [if_pos (by rw [size_mk]; simp <;> omega), extract_mk]
      simp [size_mk]
    · have hwb' : wh b = false := by simpa using hwb
      have := implTrim_end (b :: r).reverse (by simpa using hl)
      refine Ev.step (f := fun k => impl_Trim.j1 k (mkB (b :: r))) (fun k => ?_) ?_
      · simp only [impl_Trim.l0]
        rw [if_neg (by rw [toList_mk]; simp), if_pos (by rw [size_mk]; simp <;> omega), hb, isSpace_is, hwb']
        simp
      refine Ev.step (f := fun k => impl_Trim.l1 k (mkB (b :: r))) (fun k => by simp only [impl_Trim.j1]) ?_
      have et : trimB (b :: r) = ((b :: r).reverse.dropWhile wh).reverse := by simp only [trimB, List.dropWhile_cons, hwb', Bool.false_eq_true, if_false]
      rw [et]
      simpa using this
theorem implTrim_is (s : ByteArray) (hs : s.size ≤ 9223372036854775806) : Ev (fun k => impl_Trim.f k s) (mkB (trimB (bl s))) := by
  have := implTrim_go (bl s) (by simpa [size_bl] using hs)
  simpa [mk_bl, impl_Trim.f] using this

/-! #### Chars -/
def plB (b : UInt8) : Bool := decide (b.toNat = 9) || (decide (32 ≤ b.toNat) && decide (b.toNat ≠ 127))
theorem specPlain_is (b : UInt8) : spec_l1plain.f (b.toNat : Int) = some (plB b) := by
  unfold spec_l1plain.f plB
  by_cases h : b.toNat = 9
  · rw [if_pos (by omega)]; simp [h]
  · rw [if_neg (by omega)]
    by_cases h' : 32 ≤ b.toNat
    · rw [if_pos (by omega)]; congr 1; rw [Bool.eq_iff_iff]; simp [h, h']; omega
    · rw [if_neg (by omega)]; simp [h, h']
theorem implPlain_is (b : UInt8) : impl_isPlain.f (b.toNat : Int) = some (plB b) := specPlain_is b

/-! #### Token -/
def tokOdd : List UInt8 := [33, 35, 36, 37, 38, 39, 42, 43, 45, 46, 94, 95, 124, 126]
def lowB (b : UInt8) : Bool := decide (97 ≤ b.toNat) && decide (b.toNat ≤ 122)
def uppB (b : UInt8) : Bool := decide (65 ≤ b.toNat) && decide (b.toNat ≤ 90)
def digB (b : UInt8) : Bool := decide (48 ≤ b.toNat) && decide (b.toNat ≤ 57)
def tokB (b : UInt8) : Bool := lowB b || uppB b || digB b || decide (b.toNat = 96) || tokOdd.contains b
theorem isLower_is (b : UInt8) : impl_isLower.f (b.toNat : Int) = some (lowB b) := by
  unfold impl_isLower.f lowB
  by_cases h : 97 ≤ b.toNat
  · rw [if_pos (by omega)]; congr 1; rw [Bool.eq_iff_iff]; simp [h]; omega
  · rw [if_neg (by omega)]; simp [h]
theorem isUpper_is (b : UInt8) : impl_isUpper.f (b.toNat : Int) = some (uppB b) := by
  unfold impl_isUpper.f uppB
  by_cases h : 65 ≤ b.toNat
  · rw [if_pos (by omega)]; congr 1; rw [Bool.eq_iff_iff]; simp [h]; omega
  · rw [if_neg (by omega)]; simp [h]
theorem isDigit_is (b : UInt8) : impl_isDigit.f (b.toNat : Int) = some (digB b) := by
  unfold impl_isDigit.f digB
  by_cases h : 48 ≤ b.toNat
  · rw [if_pos (by omega)]; congr 1; rw [Bool.eq_iff_iff]; simp [h]; omega
  · rw [if_neg (by omega)]; simp [h]
theorem l1digit_is (b : UInt8) : spec_l1digit.f (b.toNat : Int) = some (digB b) := isDigit_is b
theorem indexByte_pos : ∀ (l : List UInt8) (c : UInt8), Lib.indexByte l c ≥ 0 ↔ l.contains c = true
  | [], c => by simp [Lib.indexByte]
  | b :: l, c => by
    have ih := indexByte_pos l c
    have lo : -1 ≤ Lib.indexByte l c := Lib.indexByte_ge l c
    unfold Lib.indexByte
    by_cases h : b = c
    · subst h; simp
    · have hb : (b == c) = false := by simpa using h
      have hc : (c == b) = false := by simpa using fun x => h x.symm
      rw [hb]
      simp only [Bool.false_eq_true, if_false, List.contains_cons, hc, Bool.false_or]
      rw [← ih]
      by_cases h2 : Lib.indexByte l c = -1
      · simp [h2]
      · have : (Lib.indexByte l c == -1) = false := by simpa using h2
        rw [this]; simp; omega
theorem isTokenByte_is (b : UInt8) : impl_isTokenByte.f (b.toNat : Int) = some (tokB b) := by
  have hi : (decide (Lib.indexByte tokOdd b ≥ 0)) = tokOdd.contains b := by
    rw [Bool.eq_iff_iff, decide_eq_true_iff]; exact indexByte_pos _ _
  have hx : strings_IndexByte.f (⟨#[33, 35, 36, 37, 38, 39, 42, 43, 45, 46, 94, 95, 124, 126]⟩ : ByteArray) (b.toNat : Int) = some (Lib.indexByte tokOdd b) := by
    unfold strings_IndexByte.f; rw [toUInt8_toNat]; rfl
  unfold impl_isTokenByte.f
  simp only [isLower_is, isUpper_is, isDigit_is, hx, Option.bind_some, hi]
  unfold tokB
  cases lowB b <;> cases uppB b <;> cases digB b <;> simp
  all_goals (by_cases h : b.toNat = 96 <;> simp [h])
  all_goals (try omega)
theorem has_go (c : Int) : ∀ (r pre : List UInt8), (pre ++ r).length ≤ 9223372036854775806 → Ev (fun k => spec_l1has.l0 k (mkB (pre ++ r)) c pre.length) (r.any fun x => decide ((x.toNat : Int) = c))
  | [], pre, hl => Ev.step (f := fun _ => some false) (fun k => by simp only [spec_l1has.l0]; rw [if_neg (by rw [size_mk]; simp)]) (Ev.now _)
  | b :: r, pre, hl => by
    have ih := has_go c r (pre ++ [b]) (by rw [← app_mid]; exact hl)
    rw [← app_mid, len_snoc] at ih
    simp at hl
    by_cases h : (b.toNat : Int) = c
    · refine Ev.step (f := fun _ => some true) (fun k => ?_) (by simpa [h] using Ev.now true)
      simp only [spec_l1has.l0]
      rw [if_pos (size_lt_mid ..), if_pos (by omega), bt_mid, if_pos h]
    · refine Ev.step (fun k => ?_) (by simpa [h] using ih)
      simp only [spec_l1has.l0]
      rw [if_pos (size_lt_mid ..), if_pos (by omega), bt_mid, if_neg h, wrap_id (by omega) (by omega)]
theorem has_is (set : List UInt8) (b : UInt8) (h : set.length ≤ 9223372036854775806) : Ev (fun k => spec_l1has.f k (mkB set) (b.toNat : Int)) (set.contains b) := by
  have := has_go (b.toNat : Int) set [] (by simpa using h)
  have e : (set.any fun x => decide ((x.toNat : Int) = (b.toNat : Int))) = set.contains b := by
    rw [← List.any_beq]
    congr 1
    funext x
    rw [Bool.eq_iff_iff]
    simp only [decide_eq_true_eq, beq_iff_eq]
    constructor
    · intro h; exact (UInt8.toNat_inj.1 (by omega)).symm
    · intro h; rw [h]
  rw [e] at this
  simpa [spec_l1has.f] using this
theorem tchar_is (b : UInt8) : Ev (fun k => spec_l1tchar.f k (b.toNat : Int)) (tokB b) := by
  have hb := u8_lt b
  have hh : Ev (fun k => spec_l1has.f k (⟨#[33, 35, 36, 37, 38, 39, 42, 43, 45, 46, 94, 95, 124, 126]⟩ : ByteArray) (b.toNat : Int)) (tokOdd.contains b) := has_is tokOdd b (by decide)
  have rest : Ev (fun k => if digB b = true then some true else if (b.toNat : Int) = 96 then some true else (spec_l1has.f k (⟨#[33, 35, 36, 37, 38, 39, 42, 43, 45, 46, 94, 95, 124, 126]⟩ : ByteArray) (b.toNat : Int)).bind fun t => some t) (digB b || decide (b.toNat = 96) || tokOdd.contains b) := by
    cases hd : digB b
    · by_cases h9 : b.toNat = 96
      · simpa [h9] using Ev.now true
      · have : ¬ (b.toNat : Int) = 96 := by omega
        simpa [h9, this] using hh.bind (f := fun _ (t : Bool) => some t) (Ev.now _)
    · simpa using Ev.now true
  unfold spec_l1tchar.f spec_l1lower.f
  simp only [l1digit_is]
  unfold tokB
  by_cases hU : 65 ≤ b.toNat ∧ b.toNat ≤ 90
  · have e1 : uppB b = true := by simp [uppB, hU]
    simp only [if_pos (show (b.toNat : Int) ≥ 65 by omega), if_pos (show (b.toNat : Int) ≤ 90 by omega), Option.bind_some, if_pos (show ((b.toNat : Int) + 32) % 256 ≥ 97 by omega), if_pos (show ((b.toNat : Int) + 32) % 256 ≤ 122 by omega)]
    simpa [e1] using Ev.now true
  · have e1 : uppB b = false := by simp [uppB]; omega
    have hlow : (if (b.toNat : Int) ≥ 65 then (if (b.toNat : Int) ≤ 90 then some (((b.toNat : Int) + 32) % 256) else some (b.toNat : Int)) else some (b.toNat : Int)) = some (b.toNat : Int) := by
      split
      · rw [if_neg (by omega)]
      · rfl
    rw [hlow]
    simp only [Option.bind_some]
    by_cases hL : 97 ≤ b.toNat
    · by_cases hL2 : b.toNat ≤ 122
      · have e2 : lowB b = true := by simp [lowB, hL, hL2]
        simp only [if_pos (show (b.toNat : Int) ≥ 97 by omega), if_pos (show (b.toNat : Int) ≤ 122 by omega)]
        simpa [e2] using Ev.now true
      · have e2 : lowB b = false := by simp [lowB, hL2]
        simp only [if_pos (show (b.toNat : Int) ≥ 97 by omega), if_neg (show ¬ (b.toNat : Int) ≤ 122 by omega)]
        simpa [e1, e2] using rest
    · have e2 : lowB b = false := by simp [lowB, hL]
      simp only [if_neg (show ¬ (b.toNat : Int) ≥ 97 by omega)]
      simpa [e1, e2] using rest
def tokenL (l : List UInt8) : Bool := decide (1 ≤ l.length) && decide (l.length ≤ 4000) && l.all tokB
theorem specToken_is (s : ByteArray) : Ev (fun k => spec_Token.f k s) (tokenL (bl s)) := by
  unfold spec_Token.f tokenL
  rw [size_bl]
  by_cases h0 : (s.size : Int) = 0
  · simp only [if_pos h0]
    refine Ev.step (f := fun _ => some false) (fun k => by simp [spec_Token.j0]) ?_
    simpa [show ¬ 1 ≤ s.size by omega] using Ev.now false
  · simp only [if_neg h0]
    by_cases h4 : (s.size : Int) > 4000
    · refine Ev.step (f := fun _ => some false) (fun k => by simp [spec_Token.j0, h4]) ?_
      simpa [show ¬ s.size ≤ 4000 by omega] using Ev.now false
    · refine Ev.step (f := fun k => spec_Token.l0 k s 0) (fun k => by simp [spec_Token.j0, h4]) ?_
      have := all_ev spec_Token.l0 spec_l1tchar.f tokB tchar_is (fun k s i => by simp only [spec_Token.l0]) s (by omega)
      simpa [show 1 ≤ s.size by omega, show s.size ≤ 4000 by omega] using this

/-! #### Within -/
theorem within_is (n a b : Int) : impl_within.f n a b = some (decide (a ≤ n) && decide (n ≤ b)) := by
  unfold impl_within.f
  by_cases h : a ≤ n <;> simp [h]

/-! #### FieldOk -/
theorem implToken_is (s : ByteArray) : Ev (fun k => impl_Token.f k s) (tokenL (bl s)) := by
  unfold impl_Token.f tokenL
  rw [size_bl]
  simp only [within_is, Option.bind_some]
  have e : (decide ((1 : Int) ≤ (s.size : Int)) && decide ((s.size : Int) ≤ 4000)) = (decide (1 ≤ s.size) && decide (s.size ≤ 4000)) := by rw [Bool.eq_iff_iff]; simp; omega
  rw [e]
  cases h : (decide (1 ≤ s.size) && decide (s.size ≤ 4000))
  · simpa using Ev.now false
  · have hs : s.size ≤ 9223372036854775806 := by simp at h; omega
    have := all_ev impl_all__impl_isTokenByte.l0 (fun _ c => impl_isTokenByte.f c) tokB (fun b => Ev.const (isTokenByte_is b)) (fun k s i => by simp only [impl_all__impl_isTokenByte.l0]) s hs
    simpa [impl_all__impl_isTokenByte.f] using this.bind (f := fun _ (t : Bool) => some t) (Ev.now _)
def fieldL (n v : List UInt8) : Bool := tokenL n && decide (n.length ≤ 40) && decide (v.length ≤ 190) && v.all plB && decide (trimB v = v)
theorem specL5plain_is (s : ByteArray) (hs : s.size ≤ 9223372036854775806) : Ev (fun k => spec_l5plain.f k s) ((bl s).all plB) := by
  have := all_ev spec_l5plain.l0 (fun _ c => spec_l1plain.f c) plB (fun b => Ev.const (specPlain_is b)) (fun k s i => by simp only [spec_l5plain.l0]) s hs
  simpa [spec_l5plain.f] using this
theorem implAllPlain_is (s : ByteArray) (hs : s.size ≤ 9223372036854775806) : Ev (fun k => impl_all__impl_isPlain.f k s) ((bl s).all plB) := by
  have := all_ev impl_all__impl_isPlain.l0 (fun _ c => impl_isPlain.f c) plB (fun b => Ev.const (implPlain_is b)) (fun k s i => by simp only [impl_all__impl_isPlain.l0]) s hs
  simpa [impl_all__impl_isPlain.f] using this
theorem trim_eq (v : ByteArray) : ((mkB (trimB (bl v))).toList == v.toList) = decide (trimB (bl v) = bl v) := by
  rw [toList_mk, toList_bl, Bool.eq_iff_iff]; simp
theorem specFieldOk_is (n v : ByteArray) : Ev (fun k => spec_FieldOk.f k n v) (fieldL (bl n) (bl v)) := by
  unfold spec_FieldOk.f fieldL
  rw [size_bl, size_bl]
  by_cases h1 : (n.size : Int) ≤ 40
  · simp only [if_pos h1]
    refine (specToken_is n).bind ?_
    cases ht : tokenL (bl n)
    · simpa using Ev.now false
    · by_cases h2 : (v.size : Int) ≤ 190
      · simp only [if_pos h2, if_true]
        refine (specL5plain_is v (by omega)).bind ?_
        cases hp : (bl v).all plB
        · simpa using Ev.now false
        · simp only [if_true]
          have := (specTrim_is v (by omega)).bind (f := fun _ (t : ByteArray) => some (t.toList == v.toList)) (Ev.now _)
          rw [trim_eq] at this
          simpa [show n.size ≤ 40 by omega, show v.size ≤ 190 by omega] using this
      · simp only [if_neg h2, if_true]
        simpa [show ¬ v.size ≤ 190 by omega] using Ev.now false
  · simp only [if_neg h1]
    simpa [show ¬ n.size ≤ 40 by omega] using Ev.now false
theorem implFieldOk_is (n v : ByteArray) : Ev (fun k => impl_FieldOk.f k n v) (fieldL (bl n) (bl v)) := by
  unfold impl_FieldOk.f fieldL
  rw [size_bl, size_bl]
  refine (implToken_is n).bind ?_
  cases ht : tokenL (bl n)
  · simpa using Ev.now false
  · by_cases h1 : (n.size : Int) ≤ 40
    · by_cases h2 : (v.size : Int) ≤ 190
      · simp only [if_pos h1, if_pos h2, if_true]
        refine (implAllPlain_is v (by omega)).bind ?_
        cases hp : (bl v).all plB
        · simpa using Ev.now false
        · simp only [if_true]
          have := (implTrim_is v (by omega)).bind (f := fun _ (t : ByteArray) => some (t.toList == v.toList)) (Ev.now _)
          rw [trim_eq] at this
          simpa [show n.size ≤ 40 by omega, show v.size ≤ 190 by omega] using this
      · simp only [if_pos h1, if_neg h2, if_true]
        simpa [show ¬ v.size ≤ 190 by omega] using Ev.now false
    · simp only [if_neg h1, if_true]
      simpa [show ¬ n.size ≤ 40 by omega] using Ev.now false

/-! #### Index -/
theorem index_short : ∀ (l sub : List UInt8), l.length < sub.length → Lib.index l sub = -1
  | [], sub, h => by cases sub <;> simp [Lib.index] at *
  | b :: l, sub, h => by
    have ih := index_short l sub (by simp at h; omega)
    have hp : sub.isPrefixOf (b :: l) = false := by
      rw [Bool.eq_false_iff]; intro hp
      have := (List.isPrefixOf_iff_prefix.1 hp).length_le
      omega
    simp [Lib.index, hp, ih]
theorem index_bound : ∀ (l sub : List UInt8), Lib.index l sub = -1 ∨ (0 ≤ Lib.index l sub ∧ Lib.index l sub + sub.length ≤ l.length)
  | [], sub => by cases sub <;> simp [Lib.index]
  | b :: l, sub => by
    unfold Lib.index
    by_cases hp : sub.isPrefixOf (b :: l) = true
    · have := (List.isPrefixOf_iff_prefix.1 hp).length_le
      rw [if_pos hp]; right; simp at this ⊢; omega
    · rw [if_neg hp]
      rcases index_bound l sub with h | h
      · left; simp [h]
      · right
        have : (Lib.index l sub == -1) = false := by simp; omega
        rw [this]; simp; omega

/-! #### Cut -/
def cutB (c : UInt8) : List UInt8 → List UInt8 × List UInt8 × Bool
  | [] => ([], [], false)
  | b :: l => if b = c then ([], l, true) else (b :: (cutB c l).1, (cutB c l).2)
theorem cut_is (c : UInt8) : ∀ l : List UInt8, Lib.cut l [c] = cutB c l
  | [] => by simp [Lib.cut, Lib.index, cutB]
  | b :: l => by
    have ih := cut_is c l
    have hb := index_bound l [c]
    unfold Lib.cut at ih ⊢
    by_cases h : b = c
    · subst h
      have hi : Lib.index (b :: l) [b] = 0 := by simp [Lib.index]
      rw [hi]; simp [cutB]
    · have hi : Lib.index (b :: l) [c] = if Lib.index l [c] = -1 then -1 else Lib.index l [c] + 1 := by
        have hc : (c == b) = false := by simpa using fun x => h x.symm
        simp only [Lib.index, List.isPrefixOf, hc, Bool.false_and, Bool.false_eq_true, if_false]
        by_cases hm : Lib.index l [c] = -1 <;> simp [hm]
      rw [hi, cutB, if_neg h]
      by_cases hm : Lib.index l [c] = -1
      · rw [hm] at ih
        rw [if_pos hm]
        rw [if_neg (by omega)] at ih ⊢
        rw [← ih]
      · rw [if_neg hm]
        rw [if_pos (by omega)] at ih
        rw [if_pos (by omega), ← ih]
        have e : (Lib.index l [c] + 1).toNat = (Lib.index l [c]).toNat + 1 := by omega
        rw [e]
        simp [Nat.add_right_comm]
theorem cutB_app (c : UInt8) : ∀ (pre r : List UInt8), (∀ b ∈ pre, b ≠ c) → cutB c (pre ++ r) = (pre ++ (cutB c r).1, (cutB c r).2)
  | [], r, _ => rfl
  | b :: pre, r, h => by
    have ih := cutB_app c pre r (fun x hx => h x (List.mem_cons_of_mem _ hx))
    rw [List.cons_append, cutB, if_neg (h b (by simp)), ih]; rfl
theorem cutB_len (c : UInt8) : ∀ l : List UInt8, (cutB c l).1.length + (cutB c l).2.1.length ≤ l.length
  | [] => by simp [cutB]
  | b :: l => by
    have ih := cutB_len c l
    unfold cutB; split
    · simp
    · simp; omega

/-! #### ReadField -/
def readFieldL (l : List UInt8) : ByteArray × ByteArray × Bool :=
  if (cutB 58 l).2.2 = true ∧ fieldL (cutB 58 l).1 (trimB (cutB 58 l).2.1) = true then (mkB (cutB 58 l).1, mkB (trimB (cutB 58 l).2.1), true) else ((⟨#[]⟩ : ByteArray), (⟨#[]⟩ : ByteArray), false)
theorem fieldL_long (n v : List UInt8) (h : 40 < n.length) : fieldL n v = false := by
  simp [fieldL, show ¬ n.length ≤ 40 by omega]
theorem size_u8 (b : UInt8) : (b.toNat : Int) = 58 ↔ b = 58 := by
  rw [← UInt8.toNat_inj]
  constructor
  · intro h; show b.toNat = 58; omega
  · intro h; have : b.toNat = 58 := h; omega
theorem specReadField_go : ∀ (r pre : List UInt8), (∀ b ∈ pre, b ≠ 58) → pre.length ≤ 41 → (pre ++ r).length ≤ 1048576 →
    Ev (fun k => spec_ReadField.l0 k (mkB (pre ++ r)) pre.length) (readFieldL (pre ++ r))
  | [], pre, hp, h41, hl => by
    refine Ev.step (f := fun k => spec_ReadField.j1 k (mkB (pre ++ [])) pre.length false) (fun k => by simp only [spec_ReadField.l0]; rw [if_neg (by rw [size_mk]; simp)]) ?_
    refine Ev.step (f := fun _ => some ((⟨#[]⟩ : ByteArray), (⟨#[]⟩ : ByteArray), false)) (fun k => by simp [spec_ReadField.j1]) ?_
    have : readFieldL (pre ++ []) = ((⟨#[]⟩ : ByteArray), (⟨#[]⟩ : ByteArray), false) := by
      unfold readFieldL
      rw [cutB_app 58 pre [] hp, if_neg (by simp [cutB])]
    rw [this]; exact Ev.now _
  | b :: r, pre, hp, h41, hl => by
    have hl2 := hl
    simp at hl2
    refine Ev.step (f := fun k => spec_ReadField.j1 k (mkB (pre ++ b :: r)) pre.length (decide ((pre.length : Int) ≤ 40))) (fun k => by simp only [spec_ReadField.l0]; rw [if_pos (size_lt_mid ..)]) ?_
    by_cases h40 : pre.length ≤ 40
    · have hd : decide ((pre.length : Int) ≤ 40) = true := decide_eq_true (by omega)
      simp only [hd]
      have hw : wrap64 ((pre.length : Int) + 1) = (pre.length : Int) + 1 := wrap_id (by omega) (by omega)
      by_cases hb : b = 58
      · subst hb
        have hx1 : (mkB (pre ++ 58 :: r)).extract ((pre.length : Int) + 1).toNat (mkB (pre ++ 58 :: r)).size = mkB r := by
          rw [extract_mk, size_mk]
          congr 1
          have e : ((pre.length : Int) + 1).toNat = pre.length + 1 := by omega
          rw [e, drop_mid, List.take_of_length_le]
          simp <;> omega
        have hx2 : (mkB (pre ++ 58 :: r)).extract 0 ((pre.length : Int)).toNat = mkB pre := by
          rw [extract_mk]; simp
        refine Ev.step (f := fun k => (spec_Trim.f k (mkB r)).bind fun t => (spec_FieldOk.f k (mkB pre) t).bind fun q => if q = true then some (mkB pre, t, true) else some ((⟨#[]⟩ : ByteArray), (⟨#[]⟩ : ByteArray), false)) (fun k => ?_) ?_
        · simp only [spec_ReadField.j1, if_true]
          rw [if_pos (by omega), if_pos (size_lt_mid ..), bt_mid, if_pos (by rfl), if_pos (by rw [size_mk]; simp <;> omega), hw, if_pos (by omega), if_pos (by rw [size_mk]; simp <;> omega), hx1, hx2]
        refine (specTrim_is (mkB r) (by rw [size_mk]; omega)).bind ?_
        refine (specFieldOk_is _ _).bind ?_
        rw [bl_mk, bl_mk, bl_mk]
        have hc : cutB 58 (pre ++ 58 :: r) = (pre, r, true) := by rw [cutB_app 58 pre _ hp]; simp [cutB]
        unfold readFieldL
        rw [hc]
        cases hf : fieldL pre (trimB r)
        · simpa using Ev.now _
        · simpa using Ev.now _
      · have ih := specReadField_go r (pre ++ [b]) (by intro x hx; rcases List.mem_append.1 hx with h | h; exact hp x h; simp at h; subst h; exact hb) (by simp; omega) (by rw [← app_mid]; exact hl)
        rw [← app_mid, len_snoc] at ih
        refine Ev.step (fun k => ?_) ih
        simp only [spec_ReadField.j1, if_true]
        rw [if_pos (by omega), if_pos (size_lt_mid ..), bt_mid, if_neg (fun h => hb ((size_u8 b).1 h)), hw]
    · have hd : decide ((pre.length : Int) ≤ 40) = false := decide_eq_false (by omega)
      simp only [hd]
      refine Ev.step (f := fun _ => some ((⟨#[]⟩ : ByteArray), (⟨#[]⟩ : ByteArray), false)) (fun k => by simp [spec_ReadField.j1]) ?_
      have : readFieldL (pre ++ b :: r) = ((⟨#[]⟩ : ByteArray), (⟨#[]⟩ : ByteArray), false) := by
        unfold readFieldL
        rw [cutB_app 58 pre _ hp]
        simp only
        rw [fieldL_long _ _ (by simp; omega), if_neg (by simp)]
      rw [this]; exact Ev.now _
theorem specReadField_is (s : ByteArray) (hs : s.size ≤ 1048576) : Ev (fun k => spec_ReadField.f k s) (readFieldL (bl s)) := by
  have := specReadField_go (bl s) [] (by simp) (by simp) (by simpa [size_bl] using hs)
  simpa [mk_bl, spec_ReadField.f] using this
theorem stringsCut_is (s : ByteArray) (c : UInt8) (hs : s.size ≤ 1048576) : strings_Cut.f s (⟨#[c]⟩ : ByteArray) = some (mkB (cutB c (bl s)).1, mkB (cutB c (bl s)).2.1, (cutB c (bl s)).2.2) := by
  unfold strings_Cut.f
  rw [if_pos (by omega)]
  have : Lib.cut s.data.toList (⟨#[c]⟩ : ByteArray).data.toList = cutB c (bl s) := cut_is c (bl s)
  rw [this]; rfl
theorem implReadField_is (s : ByteArray) (hs : s.size ≤ 1048576) : Ev (fun k => impl_ReadField.f k s) (readFieldL (bl s)) := by
  have hlen := cutB_len 58 (bl s)
  rw [size_bl] at hlen
  unfold impl_ReadField.f
  rw [stringsCut_is s 58 hs]
  simp only [Option.bind_some]
  refine (implTrim_is _ (by rw [size_mk]; omega)).bind ?_
  unfold readFieldL
  rw [bl_mk]
  cases hc : (cutB 58 (bl s)).2.2
  · simpa using Ev.now ((⟨#[]⟩ : ByteArray), (⟨#[]⟩ : ByteArray), false)
  · simp only [if_true]
    refine (implFieldOk_is _ _).bind ?_
    rw [bl_mk, bl_mk]
    cases hf : fieldL (cutB 58 (bl s)).1 (trimB (cutB 58 (bl s)).2.1)
    · simpa using Ev.now _
    · simpa using Ev.now _

theorem FnExactReadField : laws_FnExactReadField.Pure := by
  intro s hs
  refine Ev.rounds ?_
  unfold laws_FnExactReadField.f
  by_cases h : (s.size : Int) > 1048576
  · simp only [if_pos h]; exact Ev.now _
  · simp only [if_neg h]
    refine (specReadField_is s (by omega)).bind ?_
    refine (implReadField_is s (by omega)).bind ?_
    simp [laws_eqField.f]
    exact Ev.now _

end Go.Proofs.Ytnfjjbpochmhpaa.Pure
