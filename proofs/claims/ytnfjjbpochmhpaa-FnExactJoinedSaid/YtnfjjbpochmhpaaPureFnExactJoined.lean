/- Joined of the program and of the reference agree, the argument stays as it was, and the call returns true, for every list of fields and every name. No condition. -/
import Derived.Test.YtnfjjbpochmhpaaGFnExactJoinedx5
import Derived.Laws.Strings
import Derived.OpenShut
namespace Go.Proofs.Ytnfjjbpochmhpaa.Pure
open Go.RowKit Go.Proofs.Ytnfjjbpochmhpaa.GFnExactJoined Go.Proofs.YtnfjjbpochmhpaaW.PrintWords Go.Proofs.YtnfjjbpochmhpaaW.PrintLast Go.Proofs.YtnfjjbpochmhpaaW.PrintMore
set_option linter.unusedVariables false
set_option linter.unusedSimpArgs false

/-! #### Bytes -/
/-- More rounds: an Ev of a function of its own. -/
theorem Ev.mono1 {α : Type} {g : Nat → Option α} {r : α} (K : Nat) (h : ∀ k, g (k + K) = some r) : Ev g r :=
  ⟨K, fun k hk => by obtain ⟨m, rfl⟩ : ∃ m, k = m + K := ⟨k - K, by omega⟩; exact h m⟩
theorem toList_inj {a b : ByteArray} (h : a.toList = b.toList) : a = b := by
  rw [ByteArray.toList_eq, ByteArray.toList_eq] at h
  cases a; cases b; simp_all
theorem getD_mid {α : Type} (pre : List α) (x : α) (r : List α) (z : α) : (pre ++ x :: r).getD ((pre.length : Int).toNat) z = x := by simp [List.getD]
theorem wrap_succ {n : Nat} (h : n < 9223372036854775807) : wrap64 ((n : Int) + 1) = ((n + 1 : Nat) : Int) := by unfold wrap64; omega
theorem wrap_id {a : Int} (h1 : -9223372036854775808 ≤ a) (h2 : a ≤ 9223372036854775807) : wrap64 a = a := by unfold wrap64; omega
theorem len_mid {α : Type} (pre : List α) (x : α) (r : List α) : (pre.length : Int) < ((pre ++ x :: r).length : Int) := by simp; omega
theorem app_mid {α : Type} (pre : List α) (x : α) (r : List α) : pre ++ x :: r = (pre ++ [x]) ++ r := by simp
theorem len_snoc {α : Type} (pre : List α) (x : α) : ((pre ++ [x]).length : Int) = (pre.length : Int) + 1 := by simp
theorem toList_length (s : ByteArray) : s.toList.length = s.size := by rw [ByteArray.toList_eq, Array.length_toList]; rfl
theorem size_pos_iff (s : ByteArray) : (s.toList = ([] : List UInt8)) ↔ (s.size : Int) = 0 := by
  rw [← List.length_eq_zero_iff, toList_length]; omega
theorem size_strOf (xs : List Int) : (strOfNums xs).size = xs.length := by
  show (strOfNums xs).data.size = _
  simp [strOfNums]
theorem length_bytesOf (s : ByteArray) : (bytesOf s).length = s.size := bytesOf_length s
theorem less_irrefl : ∀ l : List UInt8, Op.bytesLess l l = false
  | [] => rfl
  | a :: l => by simp [Op.bytesLess, less_irrefl l]
theorem less_total : ∀ l m : List UInt8, l ≠ m → Op.bytesLess l m = !Op.bytesLess m l
  | [], [], h => absurd rfl h
  | [], _ :: _, _ => rfl
  | _ :: _, [], _ => rfl
  | a :: l, b :: m, h => by
    by_cases e : a = b
    · subst e
      have := less_total l m (fun e => h (by rw [e]))
      simp [Op.bytesLess, this]
    · have hne : (a == b) = false := by simpa using e
      have hne' : (b == a) = false := by simpa using fun x => e x.symm
      simp only [Op.bytesLess, hne, hne', Bool.false_and, Bool.or_false]
      rcases Nat.lt_trichotomy a.toNat b.toNat with h1 | h1 | h1
      · have x1 : a < b := UInt8.lt_iff_toNat_lt.2 h1
        have x2 : ¬ b < a := fun x => by have := UInt8.lt_iff_toNat_lt.1 x; omega
        simp [x1, x2]
      · exact absurd (UInt8.toNat_inj.1 h1) e
      · have x1 : b < a := UInt8.lt_iff_toNat_lt.2 h1
        have x2 : ¬ a < b := fun x => by have := UInt8.lt_iff_toNat_lt.1 x; omega
        simp [x1, x2]

/-! #### Str -/
def mkB (l : List UInt8) : ByteArray := ⟨l.toArray⟩
def bl (s : ByteArray) : List UInt8 := s.data.toList
theorem mk_bl (s : ByteArray) : mkB (bl s) = s := by cases s; simp [mkB, bl]
theorem bl_mk (l : List UInt8) : bl (mkB l) = l := by simp [mkB, bl]
theorem size_mk (l : List UInt8) : (mkB l).size = l.length := by show (mkB l).data.size = _; simp [mkB]
theorem size_bl (s : ByteArray) : (bl s).length = s.size := by rw [bl, Array.length_toList]; rfl
theorem toList_bl (s : ByteArray) : s.toList = bl s := ByteArray.toList_eq s
theorem toList_mk (l : List UInt8) : (mkB l).toList = l := by rw [toList_bl, bl_mk]
theorem mkB_inj {l m : List UInt8} (h : mkB l = mkB m) : l = m := by rw [← bl_mk l, h, bl_mk]
theorem getB (l : List UInt8) (i : Nat) (h : i < (mkB l).size) : (mkB l)[i]'h = l[i]'(by rwa [size_mk] at h) := by
  show (mkB l).data[i]'h = _
  simp [mkB]
theorem bt_at_ (l : List UInt8) (i : Nat) (h : i < l.length) : bt (mkB l) (i : Int) = ((l[i]'h).toNat : Int) := by
  unfold bt
  rw [dif_pos (by rw [size_mk]; simpa using h), getB]
  simp
theorem bt_mid (pre : List UInt8) (b : UInt8) (r : List UInt8) : bt (mkB (pre ++ b :: r)) (pre.length : Int) = (b.toNat : Int) := by
  rw [bt_at_ _ _ (by simp)]
  simp
theorem extract_mk (l : List UInt8) (i j : Nat) : (mkB l).extract i j = mkB ((l.drop i).take (j - i)) := by
  apply toList_inj
  rw [toList_mk, toList_bl, bl, ByteArray.data_extract, Array.toList_extract]
  simp [mkB, List.extract]
theorem drop_mid (pre : List UInt8) (b : UInt8) (r : List UInt8) : (pre ++ b :: r).drop (pre.length + 1) = r := by
  rw [app_mid, List.drop_left' (by simp)]
theorem size_lt_mid (pre : List UInt8) (b : UInt8) (r : List UInt8) : (pre.length : Int) < ((mkB (pre ++ b :: r)).size : Int) := by rw [size_mk]; exact len_mid ..
theorem u8_lt (b : UInt8) : (b.toNat : Int) < 256 := by have := b.toNat_lt; omega
theorem toUInt8_toNat (b : UInt8) : ((b.toNat : Int)).toNat.toUInt8 = b := by simp
/-- 'for all bytes', as a loop over a string's places. -/
theorem all_loop (F : Nat → ByteArray → Int → Option Bool) (G : Nat → Int → Option Bool) (p : UInt8 → Bool) (hG : ∀ b : UInt8, Ev (fun k => G k b.toNat) (p b))
    (hF : ∀ k s i, F (k + 1) s i = if i < (s.size : Int) then (if 0 ≤ i then (G k (bt s i)).bind fun t => (if t = true then F k s (wrap64 (i + 1)) else some false) else none) else some true) :
    ∀ (r pre : List UInt8), (pre ++ r).length ≤ 9223372036854775806 → Ev (fun k => F k (mkB (pre ++ r)) pre.length) (r.all p)
  | [], pre, _ => Ev.step (f := fun _ => some true) (fun k => by rw [hF, size_mk]; simp) (Ev.now _)
  | b :: r, pre, hl => by
    have ih := all_loop F G p hG hF r (pre ++ [b]) (by rw [← app_mid]; exact hl)
    rw [← app_mid, len_snoc] at ih
    simp at hl
    refine Ev.step (f := fun k => (G k b.toNat).bind fun t => (if t = true then F k (mkB (pre ++ b :: r)) (pre.length + 1) else some false)) (fun k => ?_) ?_
    · rw [hF, if_pos (size_lt_mid ..), if_pos (by omega), bt_mid, wrap_id (by omega) (by omega)]
    refine (hG b).bind ?_
    cases hp : p b
    · simpa [List.all_cons, hp] using Ev.now false
    · simpa [List.all_cons, hp] using ih
theorem all_ev (F : Nat → ByteArray → Int → Option Bool) (G : Nat → Int → Option Bool) (p : UInt8 → Bool) (hG : ∀ b : UInt8, Ev (fun k => G k b.toNat) (p b))
    (hF : ∀ k s i, F (k + 1) s i = if i < (s.size : Int) then (if 0 ≤ i then (G k (bt s i)).bind fun t => (if t = true then F k s (wrap64 (i + 1)) else some false) else none) else some true)
    (s : ByteArray) (hs : s.size ≤ 9223372036854775806) : Ev (fun k => F k s 0) ((bl s).all p) := by
  have := all_loop F G p hG hF (bl s) [] (by simpa [size_bl] using hs)
  simpa [mk_bl] using this
theorem Ev.const {α : Type} {x : Option α} {r : α} (h : x = some r) : Ev (fun _ => x) r := ⟨0, fun _ _ => h⟩

/-! #### Trim -/
def wh (b : UInt8) : Bool := decide (b.toNat = 32) || decide (b.toNat = 9)
def trimB (l : List UInt8) : List UInt8 := ((l.dropWhile wh).reverse.dropWhile wh).reverse
theorem l1white_is (b : UInt8) : spec_l1white.f (b.toNat : Int) = some (wh b) := by
  unfold spec_l1white.f wh
  by_cases h : b.toNat = 32
  · rw [if_pos (by omega)]; simp [h]
  · rw [if_neg (by omega)]
    by_cases h' : b.toNat = 9
    · simp [h']
    · simp [h, h']; omega
theorem isSpace_is (b : UInt8) : impl_isSpace.f (b.toNat : Int) = some (wh b) := l1white_is b
theorem take_mid (pre m suf : List UInt8) : ((pre ++ (m ++ suf)).drop pre.length).take (pre.length + m.length - pre.length) = m := by simp
theorem bt_mid2 (pre m : List UInt8) (b : UInt8) (suf : List UInt8) (i : Int) (hi : i = (pre.length : Int) + (m.length : Int)) : bt (mkB (pre ++ (m ++ b :: suf))) i = (b.toNat : Int) := by
  have := bt_mid (pre ++ m) b suf
  rw [List.append_assoc] at this
  rw [hi, ← this]; simp
theorem specTrim_end : ∀ (m pre suf : List UInt8), (pre ++ (m.reverse ++ suf)).length ≤ 9223372036854775806 →
    Ev (fun k => spec_Trim.l1 k (mkB (pre ++ (m.reverse ++ suf))) pre.length ((pre.length : Int) + m.length)) (mkB (m.dropWhile wh).reverse)
  | [], pre, suf, hl => by
    refine Ev.step (f := fun _ => some (mkB [])) (fun k => ?_) (by simpa using Ev.now (mkB []))
    simp only [spec_Trim.l1]
    simp at hl
    rw [if_neg (by simp), if_pos (by omega), if_pos (by simp), if_pos (by rw [size_mk]; simp <;> omega), extract_mk]
    simp
  | b :: m, pre, suf, hl => by
    have e : pre ++ ((b :: m).reverse ++ suf) = pre ++ (m.reverse ++ b :: suf) := by simp
    rw [e] at hl ⊢
    have hl2 := hl
    simp at hl2
    have hb : bt (mkB (pre ++ (m.reverse ++ b :: suf))) ((pre.length : Int) + m.length) = (b.toNat : Int) := bt_mid2 pre m.reverse b suf _ (by simp)
    have hw : wrap64 ((pre.length : Int) + ((b :: m).length : Int) - 1) = (pre.length : Int) + m.length := by rw [wrap_id (by simp <;> omega) (by simp <;> omega)]; simp <;> omega
    by_cases hwb : wh b = true
    · have ih := specTrim_end m pre (b :: suf) hl
      rw [List.dropWhile_cons, if_pos hwb]
      refine Ev.step (fun k => ?_) ih
      simp only [spec_Trim.l1]
      rw [if_pos (by simp <;> omega), hw, if_pos (by omega), if_pos (by rw [size_mk]; simp <;> omega), hb, l1white_is, hwb]
      simp
    · rw [List.dropWhile_cons, if_neg hwb]
      have hwb' : wh b = false := by simpa using hwb
      refine Ev.step (f := fun _ => some (mkB (b :: m).reverse)) (fun k => ?_) (Ev.now _)
      simp only [spec_Trim.l1]
      rw [if_pos (by simp <;> omega), hw, if_pos (by omega), if_pos (by rw [size_mk]; simp <;> omega), hb, l1white_is, hwb']
      simp only [Option.bind_some, Bool.false_eq_true, if_false]
      rw [if_pos (by omega), if_pos (by simp <;> omega), if_pos (by rw [size_mk]; simp <;> omega), extract_mk]
      have hn : ((pre.length : Int) + ((b :: m).length : Int)).toNat = pre.length + (b :: m).reverse.length := by simp; omega
      rw [hn, Int.toNat_natCast, ← e, take_mid]
theorem specTrim_go : ∀ (r pre : List UInt8), (pre ++ r).length ≤ 9223372036854775806 →
    Ev (fun k => spec_Trim.l0 k (mkB (pre ++ r)) pre.length) (mkB (trimB r))
  | [], pre, hl => by
    have := specTrim_end [] pre [] (by simpa using hl)
    refine Ev.step (f := fun k => spec_Trim.j1 k (mkB (pre ++ [])) pre.length) (fun k => by simp only [spec_Trim.l0]; rw [if_neg (by rw [size_mk]; simp)]) ?_
    refine Ev.step (f := fun k => spec_Trim.l1 k (mkB (pre ++ [])) pre.length ((mkB (pre ++ [])).size : Int)) (fun k => by simp only [spec_Trim.j1]) ?_
    rw [size_mk]
    simpa [trimB] using this
  | b :: r, pre, hl => by
    have hl2 := hl
    simp at hl2
    by_cases hwb : wh b = true
    · have ih := specTrim_go r (pre ++ [b]) (by rw [← app_mid]; exact hl)
      rw [← app_mid, len_snoc] at ih
      have et : trimB (b :: r) = trimB r := by simp [trimB, List.dropWhile_cons, hwb]
      rw [et]
      refine Ev.step (fun k => ?_) ih
      simp only [spec_Trim.l0]
      rw [if_pos (size_lt_mid ..), if_pos (by omega), bt_mid, l1white_is, hwb, wrap_id (by omega) (by omega)]
      simp
    · have hwb' : wh b = false := by simpa using hwb
      have := specTrim_end (b :: r).reverse pre [] (by simpa using hl)
      refine Ev.step (f := fun k => spec_Trim.j1 k (mkB (pre ++ b :: r)) pre.length) (fun k => ?_) ?_
      · simp only [spec_Trim.l0]
        rw [if_pos (size_lt_mid ..), if_pos (by omega), bt_mid, l1white_is, hwb']
        simp
      refine Ev.step (f := fun k => spec_Trim.l1 k (mkB (pre ++ b :: r)) pre.length ((mkB (pre ++ b :: r)).size : Int)) (fun k => by simp only [spec_Trim.j1]) ?_
      have e2 : ((mkB (pre ++ b :: r)).size : Int) = (pre.length : Int) + ((b :: r).reverse.length : Int) := by rw [size_mk]; simp
      rw [e2]
      have et : trimB (b :: r) = ((b :: r).reverse.dropWhile wh).reverse := by simp only [trimB, List.dropWhile_cons, hwb', Bool.false_eq_true, if_false]
      rw [et]
      simpa using this
theorem specTrim_is (s : ByteArray) (hs : s.size ≤ 9223372036854775806) : Ev (fun k => spec_Trim.f k s) (mkB (trimB (bl s))) := by
  have := specTrim_go (bl s) [] (by simpa [size_bl] using hs)
  simpa [mk_bl, spec_Trim.f] using this
theorem implTrim_end : ∀ (m : List UInt8), m.length ≤ 9223372036854775806 → Ev (fun k => impl_Trim.l1 k (mkB m.reverse)) (mkB (m.dropWhile wh).reverse)
  | [], _ => Ev.step (f := fun _ => some (mkB [])) (fun k => by simp [impl_Trim.l1, toList_mk]) (by simpa using Ev.now (mkB []))
  | b :: m, hl => by
    simp at hl
    have hw : wrap64 (((mkB (b :: m).reverse).size : Int) - 1) = (m.length : Int) := by rw [size_mk, wrap_id (by simp <;> omega) (by simp <;> omega)]; simp
    have hb : bt (mkB (b :: m).reverse) (m.length : Int) = (b.toNat : Int) := by
      have := bt_mid m.reverse b []
      simpa using this
    have hcell : ∀ k, impl_Trim.l1 (k + 1) (mkB (b :: m).reverse) = if wh b = true then impl_Trim.l1 k (mkB m.reverse) else some (mkB (b :: m).reverse) := by
      intro k
      simp only [impl_Trim.l1]
      rw [if_neg (by rw [toList_mk]; simp), hw, if_pos (by omega), if_pos (by rw [size_mk]; simp <;> omega), hb, isSpace_is]
      simp only [Option.bind_some]
      split
      · rw [if_pos (by rw [size_mk]; simp <;> omega), extract_mk]
        congr 2
        simp
      · rfl
    by_cases hwb : wh b = true
    · rw [List.dropWhile_cons, if_pos hwb]
      exact Ev.step (fun k => by rw [hcell, if_pos hwb]) (implTrim_end m (by omega))
    · rw [List.dropWhile_cons, if_neg hwb]
      exact Ev.step (f := fun _ => some (mkB (b :: m).reverse)) (fun k => by rw [hcell, if_neg hwb]) (Ev.now _)
theorem implTrim_go : ∀ (r : List UInt8), r.length ≤ 9223372036854775806 → Ev (fun k => impl_Trim.l0 k (mkB r)) (mkB (trimB r))
  | [], _ => by
    have := implTrim_end [] (by simp)
    refine Ev.step (f := fun k => impl_Trim.j1 k (mkB [])) (fun k => by simp [impl_Trim.l0, toList_mk]) ?_
    exact Ev.step (f := fun k => impl_Trim.l1 k (mkB [])) (fun k => by simp only [impl_Trim.j1]) (by simpa [trimB] using this)
  | b :: r, hl => by
    simp at hl
    have hb : bt (mkB (b :: r)) 0 = (b.toNat : Int) := by simpa using bt_mid [] b r
    by_cases hwb : wh b = true
    · have ih := implTrim_go r (by omega)
      have et : trimB (b :: r) = trimB r := by simp [trimB, List.dropWhile_cons, hwb]
      rw [et]
      refine Ev.step (fun k => ?_) ih
      simp only [impl_Trim.l0]
      rw [if_neg (by rw [toList_mk]; simp), if_pos (by rw [size_mk]; simp <;> omega), hb, isSpace_is, hwb]
      simp only [Option.bind_some, if_true]
      rw [if_pos (by rw [size_mk]; simp <;> omega), extract_mk]
      simp [size_mk]
    · have hwb' : wh b = false := by simpa using hwb
      have := implTrim_end (b :: r).reverse (by simpa using hl)
      refine Ev.step (f := fun k => impl_Trim.j1 k (mkB (b :: r))) (fun k => ?_) ?_
      · simp only [impl_Trim.l0]
        rw [if_neg (by rw [toList_mk]; simp), if_pos (by rw [size_mk]; simp <;> omega), hb, isSpace_is, hwb']
        simp
      refine Ev.step (f := fun k => impl_Trim.l1 k (mkB (b :: r))) (fun k => by simp only [impl_Trim.j1]) ?_
      have et : trimB (b :: r) = ((b :: r).reverse.dropWhile wh).reverse := by simp only [trimB, List.dropWhile_cons, hwb', Bool.false_eq_true, if_false]
      rw [et]
      simpa using this
theorem implTrim_is (s : ByteArray) (hs : s.size ≤ 9223372036854775806) : Ev (fun k => impl_Trim.f k s) (mkB (trimB (bl s))) := by
  have := implTrim_go (bl s) (by simpa [size_bl] using hs)
  simpa [mk_bl, impl_Trim.f] using this

/-! #### Chars -/
def plB (b : UInt8) : Bool := decide (b.toNat = 9) || (decide (32 ≤ b.toNat) && decide (b.toNat ≠ 127))
theorem specPlain_is (b : UInt8) : spec_l1plain.f (b.toNat : Int) = some (plB b) := by
  unfold spec_l1plain.f plB
  by_cases h : b.toNat = 9
  · rw [if_pos (by omega)]; simp [h]
  · rw [if_neg (by omega)]
    by_cases h' : 32 ≤ b.toNat
    · rw [if_pos (by omega)]; congr 1; rw [Bool.eq_iff_iff]; simp [h, h']; omega
    · rw [if_neg (by omega)]; simp [h, h']
theorem implPlain_is (b : UInt8) : impl_isPlain.f (b.toNat : Int) = some (plB b) := specPlain_is b

/-! #### Token -/
def tokOdd : List UInt8 := [33, 35, 36, 37, 38, 39, 42, 43, 45, 46, 94, 95, 124, 126]
def lowB (b : UInt8) : Bool := decide (97 ≤ b.toNat) && decide (b.toNat ≤ 122)
def uppB (b : UInt8) : Bool := decide (65 ≤ b.toNat) && decide (b.toNat ≤ 90)
def digB (b : UInt8) : Bool := decide (48 ≤ b.toNat) && decide (b.toNat ≤ 57)
def tokB (b : UInt8) : Bool := lowB b || uppB b || digB b || decide (b.toNat = 96) || tokOdd.contains b
theorem isLower_is (b : UInt8) : impl_isLower.f (b.toNat : Int) = some (lowB b) := by
  unfold impl_isLower.f lowB
  by_cases h : 97 ≤ b.toNat
  · rw [if_pos (by omega)]; congr 1; rw [Bool.eq_iff_iff]; simp [h]; omega
  · rw [if_neg (by omega)]; simp [h]
theorem isUpper_is (b : UInt8) : impl_isUpper.f (b.toNat : Int) = some (uppB b) := by
  unfold impl_isUpper.f uppB
  by_cases h : 65 ≤ b.toNat
  · rw [if_pos (by omega)]; congr 1; rw [Bool.eq_iff_iff]; simp [h]; omega
  · rw [if_neg (by omega)]; simp [h]
theorem isDigit_is (b : UInt8) : impl_isDigit.f (b.toNat : Int) = some (digB b) := by
  unfold impl_isDigit.f digB
  by_cases h : 48 ≤ b.toNat
  · rw [if_pos (by omega)]; congr 1; rw [Bool.eq_iff_iff]; simp [h]; omega
  · rw [if_neg (by omega)]; simp [h]
theorem l1digit_is (b : UInt8) : spec_l1digit.f (b.toNat : Int) = some (digB b) := isDigit_is b
theorem indexByte_pos : ∀ (l : List UInt8) (c : UInt8), Lib.indexByte l c ≥ 0 ↔ l.contains c = true
  | [], c => by simp [Lib.indexByte]
  | b :: l, c => by
    have ih := indexByte_pos l c
    have lo : -1 ≤ Lib.indexByte l c := Lib.indexByte_ge l c
    unfold Lib.indexByte
    by_cases h : b = c
    · subst h; simp
    · have hb : (b == c) = false := by simpa using h
      have hc : (c == b) = false := by simpa using fun x => h x.symm
      rw [hb]
      simp only [Bool.false_eq_true, if_false, List.contains_cons, hc, Bool.false_or]
      rw [← ih]
      by_cases h2 : Lib.indexByte l c = -1
      · simp [h2]
      · have : (Lib.indexByte l c == -1) = false := by simpa using h2
        rw [this]; simp; omega
theorem isTokenByte_is (b : UInt8) : impl_isTokenByte.f (b.toNat : Int) = some (tokB b) := by
  have hi : (decide (Lib.indexByte tokOdd b ≥ 0)) = tokOdd.contains b := by
    rw [Bool.eq_iff_iff, decide_eq_true_iff]; exact indexByte_pos _ _
  have hx : strings_IndexByte.f (⟨#[33, 35, 36, 37, 38, 39, 42, 43, 45, 46, 94, 95, 124, 126]⟩ : ByteArray) (b.toNat : Int) = some (Lib.indexByte tokOdd b) := by
    unfold strings_IndexByte.f; rw [toUInt8_toNat]; rfl
  unfold impl_isTokenByte.f
  simp only [isLower_is, isUpper_is, isDigit_is, hx, Option.bind_some, hi]
  unfold tokB
  cases lowB b <;> cases uppB b <;> cases digB b <;> simp
  all_goals (by_cases h : b.toNat = 96 <;> simp [h])
  all_goals (try omega)
theorem has_go (c : Int) : ∀ (r pre : List UInt8), (pre ++ r).length ≤ 9223372036854775806 → Ev (fun k => spec_l1has.l0 k (mkB (pre ++ r)) c pre.length) (r.any fun x => decide ((x.toNat : Int) = c))
  | [], pre, hl => Ev.step (f := fun _ => some false) (fun k => by simp only [spec_l1has.l0]; rw [if_neg (by rw [size_mk]; simp)]) (Ev.now _)
  | b :: r, pre, hl => by
    have ih := has_go c r (pre ++ [b]) (by rw [← app_mid]; exact hl)
    rw [← app_mid, len_snoc] at ih
    simp at hl
    by_cases h : (b.toNat : Int) = c
    · refine Ev.step (f := fun _ => some true) (fun k => ?_) (by simpa [h] using Ev.now true)
      simp only [spec_l1has.l0]
      rw [if_pos (size_lt_mid ..), if_pos (by omega), bt_mid, if_pos h]
    · refine Ev.step (fun k => ?_) (by simpa [h] using ih)
      simp only [spec_l1has.l0]
      rw [if_pos (size_lt_mid ..), if_pos (by omega), bt_mid, if_neg h, wrap_id (by omega) (by omega)]
theorem has_is (set : List UInt8) (b : UInt8) (h : set.length ≤ 9223372036854775806) : Ev (fun k => spec_l1has.f k (mkB set) (b.toNat : Int)) (set.contains b) := by
  have := has_go (b.toNat : Int) set [] (by simpa using h)
  have e : (set.any fun x => decide ((x.toNat : Int) = (b.toNat : Int))) = set.contains b := by
    rw [← List.any_beq]
    congr 1
    funext x
    rw [Bool.eq_iff_iff]
    simp only [decide_eq_true_eq, beq_iff_eq]
    constructor
    · intro h; exact (UInt8.toNat_inj.1 (by omega)).symm
    · intro h; rw [h]
  rw [e] at this
  simpa [spec_l1has.f] using this
theorem tchar_is (b : UInt8) : Ev (fun k => spec_l1tchar.f k (b.toNat : Int)) (tokB b) := by
  have hb := u8_lt b
  have hh : Ev (fun k => spec_l1has.f k (⟨#[33, 35, 36, 37, 38, 39, 42, 43, 45, 46, 94, 95, 124, 126]⟩ : ByteArray) (b.toNat : Int)) (tokOdd.contains b) := has_is tokOdd b (by decide)
  have rest : Ev (fun k => if digB b = true then some true else if (b.toNat : Int) = 96 then some true else (spec_l1has.f k (⟨#[33, 35, 36, 37, 38, 39, 42, 43, 45, 46, 94, 95, 124, 126]⟩ : ByteArray) (b.toNat : Int)).bind fun t => some t) (digB b || decide (b.toNat = 96) || tokOdd.contains b) := by
    cases hd : digB b
    · by_cases h9 : b.toNat = 96
      · simpa [h9] using Ev.now true
      · have : ¬ (b.toNat : Int) = 96 := by omega
        simpa [h9, this] using hh.bind (f := fun _ (t : Bool) => some t) (Ev.now _)
    · simpa using Ev.now true
  unfold spec_l1tchar.f spec_l1lower.f
  simp only [l1digit_is]
  unfold tokB
  by_cases hU : 65 ≤ b.toNat ∧ b.toNat ≤ 90
  · have e1 : uppB b = true := by simp [uppB, hU]
    simp only [if_pos (show (b.toNat : Int) ≥ 65 by omega), if_pos (show (b.toNat : Int) ≤ 90 by omega), Option.bind_some, if_pos (show ((b.toNat : Int) + 32) % 256 ≥ 97 by omega), if_pos (show ((b.toNat : Int) + 32) % 256 ≤ 122 by omega)]
    simpa [e1] using Ev.now true
  · have e1 : uppB b = false := by simp [uppB]; omega
    have hlow : (if (b.toNat : Int) ≥ 65 then (if (b.toNat : Int) ≤ 90 then some (((b.toNat : Int) + 32) % 256) else some (b.toNat : Int)) else some (b.toNat : Int)) = some (b.toNat : Int) := by
      split
      · rw [if_neg (by omega)]
      · rfl
    rw [hlow]
    simp only [Option.bind_some]
    by_cases hL : 97 ≤ b.toNat
    · by_cases hL2 : b.toNat ≤ 122
      · have e2 : lowB b = true := by simp [lowB, hL, hL2]
        simp only [if_pos (show (b.toNat : Int) ≥ 97 by omega), if_pos (show (b.toNat : Int) ≤ 122 by omega)]
        simpa [e2] using Ev.now true
      · have e2 : lowB b = false := by simp [lowB, hL2]
        simp only [if_pos (show (b.toNat : Int) ≥ 97 by omega), if_neg (show ¬ (b.toNat : Int) ≤ 122 by omega)]
        simpa [e1, e2] using rest
    · have e2 : lowB b = false := by simp [lowB, hL]
      simp only [if_neg (show ¬ (b.toNat : Int) ≥ 97 by omega)]
      simpa [e1, e2] using rest
def tokenL (l : List UInt8) : Bool := decide (1 ≤ l.length) && decide (l.length ≤ 4000) && l.all tokB
theorem specToken_is (s : ByteArray) : Ev (fun k => spec_Token.f k s) (tokenL (bl s)) := by
  unfold spec_Token.f tokenL
  rw [size_bl]
  by_cases h0 : (s.size : Int) = 0
  · simp only [if_pos h0]
    refine Ev.step (f := fun _ => some false) (fun k => by simp [spec_Token.j0]) ?_
    simpa [show ¬ 1 ≤ s.size by omega] using Ev.now false
  · simp only [if_neg h0]
    by_cases h4 : (s.size : Int) > 4000
    · refine Ev.step (f := fun _ => some false) (fun k => by simp [spec_Token.j0, h4]) ?_
      simpa [show ¬ s.size ≤ 4000 by omega] using Ev.now false
    · refine Ev.step (f := fun k => spec_Token.l0 k s 0) (fun k => by simp [spec_Token.j0, h4]) ?_
      have := all_ev spec_Token.l0 spec_l1tchar.f tokB tchar_is (fun k s i => by simp only [spec_Token.l0]) s (by omega)
      simpa [show 1 ≤ s.size by omega, show s.size ≤ 4000 by omega] using this

/-! #### Within -/
theorem within_is (n a b : Int) : impl_within.f n a b = some (decide (a ≤ n) && decide (n ≤ b)) := by
  unfold impl_within.f
  by_cases h : a ≤ n <;> simp [h]

/-! #### FieldOk -/
theorem implToken_is (s : ByteArray) : Ev (fun k => impl_Token.f k s) (tokenL (bl s)) := by
  unfold impl_Token.f tokenL
  rw [size_bl]
  simp only [within_is, Option.bind_some]
  have e : (decide ((1 : Int) ≤ (s.size : Int)) && decide ((s.size : Int) ≤ 4000)) = (decide (1 ≤ s.size) && decide (s.size ≤ 4000)) := by rw [Bool.eq_iff_iff]; simp; omega
  rw [e]
  cases h : (decide (1 ≤ s.size) && decide (s.size ≤ 4000))
  · simpa using Ev.now false
  · have hs : s.size ≤ 9223372036854775806 := by simp at h; omega
    have := all_ev impl_all__impl_isTokenByte.l0 (fun _ c => impl_isTokenByte.f c) tokB (fun b => Ev.const (isTokenByte_is b)) (fun k s i => by simp only [impl_all__impl_isTokenByte.l0]) s hs
    simpa [impl_all__impl_isTokenByte.f] using this.bind (f := fun _ (t : Bool) => some t) (Ev.now _)
def fieldL (n v : List UInt8) : Bool := tokenL n && decide (n.length ≤ 40) && decide (v.length ≤ 190) && v.all plB && decide (trimB v = v)
theorem specL5plain_is (s : ByteArray) (hs : s.size ≤ 9223372036854775806) : Ev (fun k => spec_l5plain.f k s) ((bl s).all plB) := by
  have := all_ev spec_l5plain.l0 (fun _ c => spec_l1plain.f c) plB (fun b => Ev.const (specPlain_is b)) (fun k s i => by simp only [spec_l5plain.l0]) s hs
  simpa [spec_l5plain.f] using this
theorem implAllPlain_is (s : ByteArray) (hs : s.size ≤ 9223372036854775806) : Ev (fun k => impl_all__impl_isPlain.f k s) ((bl s).all plB) := by
  have := all_ev impl_all__impl_isPlain.l0 (fun _ c => impl_isPlain.f c) plB (fun b => Ev.const (implPlain_is b)) (fun k s i => by simp only [impl_all__impl_isPlain.l0]) s hs
  simpa [impl_all__impl_isPlain.f] using this
theorem trim_eq (v : ByteArray) : ((mkB (trimB (bl v))).toList == v.toList) = decide (trimB (bl v) = bl v) := by
  rw [toList_mk, toList_bl, Bool.eq_iff_iff]; simp
theorem specFieldOk_is (n v : ByteArray) : Ev (fun k => spec_FieldOk.f k n v) (fieldL (bl n) (bl v)) := by
  unfold spec_FieldOk.f fieldL
  rw [size_bl, size_bl]
  by_cases h1 : (n.size : Int) ≤ 40
  · simp only [if_pos h1]
    refine (specToken_is n).bind ?_
    cases ht : tokenL (bl n)
    · simpa using Ev.now false
    · by_cases h2 : (v.size : Int) ≤ 190
      · simp only [if_pos h2, if_true]
        refine (specL5plain_is v (by omega)).bind ?_
        cases hp : (bl v).all plB
        · simpa using Ev.now false
        · simp only [if_true]
          have := (specTrim_is v (by omega)).bind (f := fun _ (t : ByteArray) => some (t.toList == v.toList)) (Ev.now _)
          rw [trim_eq] at this
          simpa [show n.size ≤ 40 by omega, show v.size ≤ 190 by omega] using this
      · simp only [if_neg h2, if_true]
        simpa [show ¬ v.size ≤ 190 by omega] using Ev.now false
  · simp only [if_neg h1]
    simpa [show ¬ n.size ≤ 40 by omega] using Ev.now false
theorem implFieldOk_is (n v : ByteArray) : Ev (fun k => impl_FieldOk.f k n v) (fieldL (bl n) (bl v)) := by
  unfold impl_FieldOk.f fieldL
  rw [size_bl, size_bl]
  refine (implToken_is n).bind ?_
  cases ht : tokenL (bl n)
  · simpa using Ev.now false
  · by_cases h1 : (n.size : Int) ≤ 40
    · by_cases h2 : (v.size : Int) ≤ 190
      · simp only [if_pos h1, if_pos h2, if_true]
        refine (implAllPlain_is v (by omega)).bind ?_
        cases hp : (bl v).all plB
        · simpa using Ev.now false
        · simp only [if_true]
          have := (implTrim_is v (by omega)).bind (f := fun _ (t : ByteArray) => some (t.toList == v.toList)) (Ev.now _)
          rw [trim_eq] at this
          simpa [show n.size ≤ 40 by omega, show v.size ≤ 190 by omega] using this
      · simp only [if_pos h1, if_neg h2, if_true]
        simpa [show ¬ v.size ≤ 190 by omega] using Ev.now false
    · simp only [if_neg h1, if_true]
      simpa [show ¬ n.size ≤ 40 by omega] using Ev.now false

/-! #### Lists -/
/-- A loop that converts each element. -/
theorem toS_loop {α β : Type} (F : Nat → List α → List β → Int → Option (List β)) (z : α) (zb : β) (c : α → β)
    (hF : ∀ k l acc (i : Int), 0 ≤ i → i < (l.length : Int) → i < (acc.length : Int) → F (k + 1) l acc i = F k l (acc.set i.toNat (c (l.getD i.toNat z))) (wrap64 (i + 1)))
    (hE : ∀ k l acc, F (k + 1) l acc (l.length : Int) = some acc) :
    ∀ (r pre : List α) (acc : List β), acc.length = pre.length → (pre ++ r).length ≤ 1048576 → Ev (fun k => F k (pre ++ r) (acc ++ List.replicate r.length zb) pre.length) (acc ++ r.map c)
  | [], pre, acc, ha, _ => Ev.step (f := fun _ => some (acc ++ ([] : List α).map c)) (fun k => by simpa using hE k pre acc) (Ev.now _)
  | x :: r, pre, acc, ha, hl => by
    have ih := toS_loop F z zb c hF hE r (pre ++ [x]) (acc ++ [c x]) (by simp [ha]) (by rw [← app_mid]; exact hl)
    rw [← app_mid, len_snoc] at ih
    have e : acc ++ (x :: r).map c = (acc ++ [c x]) ++ r.map c := by simp
    rw [e]
    refine Ev.step (fun k => ?_) ih
    simp at hl
    rw [hF k _ _ _ (by omega) (len_mid ..) (by simp [ha]; omega), getD_mid, wrap_id (by omega) (by omega)]
    have e2 : (acc ++ List.replicate (x :: r).length zb).set ((pre.length : Int).toNat) (c x) = (acc ++ [c x]) ++ List.replicate r.length zb := by
      rw [show ((pre.length : Int).toNat) = acc.length by omega, List.length_cons, List.replicate_succ]
      simp
    rw [e2]
theorem toS_ev {α β : Type} (F : Nat → List α → List β → Int → Option (List β)) (z : α) (zb : β) (c : α → β)
    (hF : ∀ k l acc (i : Int), 0 ≤ i → i < (l.length : Int) → i < (acc.length : Int) → F (k + 1) l acc i = F k l (acc.set i.toNat (c (l.getD i.toNat z))) (wrap64 (i + 1)))
    (hE : ∀ k l acc, F (k + 1) l acc (l.length : Int) = some acc) (l : List α) (hl : l.length ≤ 1048576) : Ev (fun k => F k l (List.replicate l.length zb) 0) (l.map c) := by
  have := toS_loop F z zb c hF hE l [] [] rfl (by simpa using hl)
  simpa using this
/-- A loop that holds a list against itself. -/
theorem eqS_loop {β : Type} (F : Nat → List β → List β → Int → Option Bool) (hF : ∀ k l (i : Int), 0 ≤ i → i < (l.length : Int) → F (k + 1) l l i = F k l l (wrap64 (i + 1)))
    (hE : ∀ k l, F (k + 1) l l (l.length : Int) = some true) (L : List β) (hL : L.length ≤ 1048576) : ∀ (r pre : List β), pre ++ r = L → Ev (fun k => F k L L pre.length) true
  | [], pre, hp => by
    have e : pre = L := by simpa using hp
    exact Ev.step (f := fun _ => some true) (fun k => by rw [e]; exact hE k L) (Ev.now _)
  | x :: r, pre, hp => by
    have ih := eqS_loop F hF hE L hL r (pre ++ [x]) (by rw [← hp]; simp)
    rw [len_snoc] at ih
    have hlm := len_mid pre x r
    rw [hp] at hlm
    exact Ev.step (fun k => by rw [hF k L _ (by omega) hlm, wrap_id (by omega) (by omega)]) ih
theorem eqS_ev {β : Type} (F : Nat → List β → List β → Int → Option Bool) (hF : ∀ k l (i : Int), 0 ≤ i → i < (l.length : Int) → F (k + 1) l l i = F k l l (wrap64 (i + 1)))
    (hE : ∀ k l, F (k + 1) l l (l.length : Int) = some true) (l : List β) (hl : l.length ≤ 1048576) : Ev (fun k => F k l l 0) true := by
  simpa using eqS_loop F hF hE l hl l [] rfl
/-- A loop that asks each element. -/
theorem allS_loop {α : Type} (F : Nat → List α → Int → Option Bool) (G : Nat → α → Option Bool) (p : α → Bool) (z : α) (hG : ∀ x, Ev (fun k => G k x) (p x))
    (hF : ∀ k l (i : Int), 0 ≤ i → i < (l.length : Int) → F (k + 1) l i = (G k (l.getD i.toNat z)).bind fun t => if t = true then F k l (wrap64 (i + 1)) else some false)
    (hE : ∀ k l, F (k + 1) l (l.length : Int) = some true) : ∀ (r pre : List α), (pre ++ r).length ≤ 1048576 → Ev (fun k => F k (pre ++ r) pre.length) (r.all p)
  | [], pre, _ => Ev.step (f := fun _ => some true) (fun k => by simpa using hE k pre) (Ev.now _)
  | x :: r, pre, hl => by
    have ih := allS_loop F G p z hG hF hE r (pre ++ [x]) (by rw [← app_mid]; exact hl)
    rw [← app_mid, len_snoc] at ih
    simp at hl
    refine Ev.step (f := fun k => (G k x).bind fun t => if t = true then F k (pre ++ x :: r) (pre.length + 1) else some false) (fun k => ?_) ?_
    · rw [hF k _ _ (by omega) (len_mid ..), getD_mid, wrap_id (by omega) (by omega)]
    refine (hG x).bind ?_
    cases hp : p x
    · simpa [hp] using Ev.now false
    · simpa [hp] using ih
theorem allS_ev {α : Type} (F : Nat → List α → Int → Option Bool) (G : Nat → α → Option Bool) (p : α → Bool) (z : α) (hG : ∀ x, Ev (fun k => G k x) (p x))
    (hF : ∀ k l (i : Int), 0 ≤ i → i < (l.length : Int) → F (k + 1) l i = (G k (l.getD i.toNat z)).bind fun t => if t = true then F k l (wrap64 (i + 1)) else some false)
    (hE : ∀ k l, F (k + 1) l (l.length : Int) = some true) (l : List α) (hl : l.length ≤ 1048576) : Ev (fun k => F k l 0) (l.all p) := by
  simpa using allS_loop F G p z hG hF hE l [] (by simpa using hl)
/-- A loop that takes each element's weight off a number. -/
theorem szS_loop {α : Type} (F : Nat → List α → Int → Int → Option Int) (g : α → Int → Option Int) (wt : α → Nat) (okp : α → Prop) (z : α)
    (hg : ∀ x (n : Int), okp x → 0 ≤ n → n ≤ 1048576 → g x n = some (if n < wt x then -1 else n - wt x))
    (hF : ∀ k l n (i : Int), 0 ≤ i → i < (l.length : Int) → F (k + 1) l n i = (g (l.getD i.toNat z) n).bind fun t => if t < 0 then some (-1) else F k l t (wrap64 (i + 1)))
    (hE : ∀ k l n, F (k + 1) l n (l.length : Int) = some n) :
    ∀ (r pre : List α) (n : Int), (∀ x ∈ r, okp x) → (pre ++ r).length ≤ 1048576 → 0 ≤ n → n ≤ 1048576 →
    ∃ q, Ev (fun k => F k (pre ++ r) n pre.length) q ∧ q ≤ n ∧ (0 ≤ q → (((r.map wt).sum : Nat) : Int) ≤ n - q)
  | [], pre, n, _, _, h0, _ => ⟨n, Ev.step (f := fun _ => some n) (fun k => by simpa using hE k pre n) (Ev.now _), by omega, fun _ => by simp⟩
  | x :: r, pre, n, hb, hl, h0, h1 => by
    have hs := hg x n (hb x (by simp)) h0 h1
    by_cases hn : n < wt x
    · rw [if_pos hn] at hs
      refine ⟨-1, Ev.step (f := fun _ => some (-1)) (fun k => ?_) (Ev.now _), by omega, fun h => by omega⟩
      rw [hF k _ _ _ (by omega) (len_mid ..), getD_mid, hs]; simp
    · rw [if_neg hn] at hs
      obtain ⟨q, hq, hle, ht⟩ := szS_loop F g wt okp z hg hF hE r (pre ++ [x]) (n - wt x) (fun y hy => hb y (List.mem_cons_of_mem _ hy)) (by rw [← app_mid]; exact hl) (by omega) (by omega)
      rw [← app_mid, len_snoc] at hq
      refine ⟨q, Ev.step (fun k => ?_) hq, by omega, fun h => ?_⟩
      · simp at hl
        rw [hF k _ _ _ (by omega) (len_mid ..), getD_mid, hs]
        simp only [Option.bind_some]
        rw [if_neg (by omega), wrap_id (by omega) (by omega)]
      · have := ht h
        simp only [List.map_cons, List.sum_cons]
        omega
theorem szS_ev {α : Type} (F : Nat → List α → Int → Int → Option Int) (g : α → Int → Option Int) (wt : α → Nat) (okp : α → Prop) (z : α)
    (hg : ∀ x (n : Int), okp x → 0 ≤ n → n ≤ 1048576 → g x n = some (if n < wt x then -1 else n - wt x))
    (hF : ∀ k l n (i : Int), 0 ≤ i → i < (l.length : Int) → F (k + 1) l n i = (g (l.getD i.toNat z) n).bind fun t => if t < 0 then some (-1) else F k l t (wrap64 (i + 1)))
    (hE : ∀ k l n, F (k + 1) l n (l.length : Int) = some n) (l : List α) (n : Int) (hb : ∀ x ∈ l, okp x) (hl : l.length ≤ 9223372036854775807) (h0 : 0 ≤ n) (h1 : n ≤ 1048576) :
    ∃ q, Ev (fun k => if wrap64 (n - (l.length : Int)) < 0 then some (-1) else F k l (wrap64 (n - (l.length : Int))) 0) q ∧ q ≤ n ∧ (0 ≤ q → (l.length : Int) + (((l.map wt).sum : Nat) : Int) ≤ n - q) := by
  rw [wrap_id (by omega) (by omega)]
  by_cases h : n - (l.length : Int) < 0
  · refine ⟨-1, ?_, by omega, fun h => by omega⟩
    simp only [if_pos h]; exact Ev.now _
  · simp only [if_neg h]
    obtain ⟨q, hq, hle, ht⟩ := szS_loop F g wt okp z hg hF hE l [] (n - l.length) hb (by simp; omega) (by omega) (by omega)
    exact ⟨q, by simpa using hq, by omega, fun hh => by have := ht hh; omega⟩

/-! #### SzField -/
theorem szField_is (n v : ByteArray) (hn : n.size ≤ 9223372036854775807) (hv : v.size ≤ 9223372036854775807) (l : Int) (h0 : 0 ≤ l) (h1 : l ≤ 1048576) :
    laws_szField.f n v l = some (if l < n.size + v.size then -1 else l - n.size - v.size) := by
  unfold laws_szField.f
  rw [wrap_id (by omega) (by omega)]
  by_cases h : l - n.size < 0
  · rw [if_pos h, if_pos (by omega)]
  · rw [if_neg h, wrap_id (by omega) (by omega)]
    split <;> split <;> first | rfl | omega

/-! #### Fields -/
abbrev LFld := S49
abbrev IFld := S23
def cFld (x : LFld) : IFld := ⟨x.f0, x.f1⟩
def wFld (x : LFld) : Nat := x.f0.size + x.f1.size
theorem szFieldS_is (l : List LFld) (n : Int) (hb : ∀ x ∈ l, ok49 x) (hl : l.length ≤ 9223372036854775807) (h0 : 0 ≤ n) (h1 : n ≤ 1048576) :
    ∃ q, Ev (fun k => laws_szFieldS.f k l n) q ∧ q ≤ n ∧ (0 ≤ q → (l.length : Int) + (((l.map wFld).sum : Nat) : Int) ≤ n - q) := by
  refine szS_ev laws_szFieldS.l0 (fun x n => laws_szField.f x.f0 x.f1 n) wFld ok49 z49 ?_ ?_ ?_ l n hb hl h0 h1
  · intro x n hx h0 h1
    rw [szField_is _ _ hx.1 hx.2 n h0 h1]; congr 1
    have hw : (wFld x : Int) = (x.f0.size : Int) + (x.f1.size : Int) := by simp [wFld]
    by_cases hh : n < (x.f0.size : Int) + (x.f1.size : Int)
    · rw [if_pos hh, if_pos (by omega)]
    · rw [if_neg hh, if_neg (by omega)]; omega
  · intro k l n i h0 h1; simp only [laws_szFieldS.l0]; rw [if_pos h1, if_pos h0]; rfl
  · intro k l n; simp only [laws_szFieldS.l0]; rw [if_neg (by omega)]
theorem toFieldS_is (l : List LFld) (hl : l.length ≤ 1048576) : Ev (fun k => laws_toFieldS.f k l) (l.map cFld) := by
  unfold laws_toFieldS.f
  simp only [if_pos (show 0 ≤ (l.length : Int) by omega), if_pos (show (l.length : Int).toNat ≤ 8796093022208 by omega)]
  refine toS_ev laws_toFieldS.l0 z49 z23 cFld ?_ ?_ l hl
  · intro k l acc i h0 h1 h2
    simp only [laws_toFieldS.l0]
    rw [if_pos h1, if_pos h0]
    simp only [laws_toField.f, Option.bind_some]
    rw [if_pos h2]; rfl
  · intro k l acc; simp only [laws_toFieldS.l0]; rw [if_neg (by omega)]
theorem eqFieldS_is (l : List IFld) (hl : l.length ≤ 1048576) : Ev (fun k => laws_eqFieldS.f k l l) true := by
  unfold laws_eqFieldS.f
  simp only [if_true]
  refine eqS_ev laws_eqFieldS.l0 ?_ ?_ l hl
  · intro k l i h0 h1
    simp only [laws_eqFieldS.l0]
    rw [if_pos h1, if_pos h0, if_pos h1]
    simp [laws_eqField.f]
  · intro k l; simp only [laws_eqFieldS.l0]; rw [if_neg (by omega)]
def fldOk (x : IFld) : Bool := fieldL (bl x.f0) (bl x.f1)
def fldsOk (l : List IFld) : Bool := decide (l.length ≤ 20) && l.all fldOk
theorem specFieldsOk_is (l : List IFld) : Ev (fun k => spec_FieldsOk.f k l) (fldsOk l) := by
  unfold spec_FieldsOk.f fldsOk
  by_cases h : (l.length : Int) > 20
  · simp only [if_pos h]
    simpa [show ¬ l.length ≤ 20 by omega] using Ev.now false
  · simp only [if_neg h]
    have := allS_ev spec_FieldsOk.l0 (fun k x => spec_FieldOk.f k x.f0 x.f1) fldOk z23 (fun x => specFieldOk_is x.f0 x.f1)
      (fun k l i h0 h1 => by simp only [spec_FieldsOk.l0]; rw [if_pos h1, if_pos h0]; rfl) (fun k l => by simp only [spec_FieldsOk.l0]; rw [if_neg (by omega)]) l (by omega)
    simpa [show l.length ≤ 20 by omega] using this
theorem implFieldsOk_is (l : List IFld) : Ev (fun k => impl_FieldsOk.f k l) (fldsOk l) := by
  unfold impl_FieldsOk.f fldsOk
  by_cases h : (l.length : Int) > 20
  · simp only [if_pos h]
    simpa [show ¬ l.length ≤ 20 by omega] using Ev.now false
  · simp only [if_neg h]
    have := allS_ev (fun k l i => impl_FieldsOk.l0 k l (l.length : Int) i) (fun k x => impl_FieldOk.f k x.f0 x.f1) fldOk z23 (fun x => implFieldOk_is x.f0 x.f1)
      (fun k l i h0 h1 => by simp only [impl_FieldsOk.l0]; rw [if_pos h1, if_pos h0, if_pos h1]; rfl) (fun k l => by simp only [impl_FieldsOk.l0]; rw [if_neg (by omega)]) l (by omega)
    simpa [show l.length ≤ 20 by omega] using this

/-! #### Values -/
/-- A loop that collects what is fit. -/
theorem filtS_go {α β : Type} (L : Nat → List α → List β → Int → Option (List β)) (p : α → Bool) (g : α → β) (ok : α → Prop) (z : α)
    (hstep : ∀ k l acc (i : Int), 0 ≤ i → i < (l.length : Int) → acc.length < 8796093022208 → ok (l.getD i.toNat z) → L (k + 1) l acc i = if p (l.getD i.toNat z) = true then L k l (acc ++ [g (l.getD i.toNat z)]) (wrap64 (i + 1)) else L k l acc (wrap64 (i + 1)))
    (hend : ∀ k l acc, L (k + 1) l acc (l.length : Int) = some acc) :
    ∀ (r pre : List α) (acc : List β), (∀ x ∈ r, ok x) → acc.length + r.length ≤ 1048576 → (pre ++ r).length ≤ 1048576 → Ev (fun k => L k (pre ++ r) acc pre.length) (acc ++ (r.filter p).map g)
  | [], pre, acc, _, _, _ => Ev.step (f := fun _ => some acc) (fun k => by simpa using hend k pre acc) (by simpa using Ev.now acc)
  | x :: r, pre, acc, ho, ha, hl => by
    have hx := ho x (by simp)
    simp only [List.length_cons] at ha
    have hw : wrap64 ((pre.length : Int) + 1) = (pre.length : Int) + 1 := by simp at hl; exact wrap_id (by omega) (by omega)
    have hs := fun k => hstep k (pre ++ x :: r) acc pre.length (by omega) (len_mid ..) (by omega) (by rw [getD_mid]; exact hx)
    simp only [getD_mid, hw] at hs
    by_cases hp : p x = true
    · have ih := filtS_go L p g ok z hstep hend r (pre ++ [x]) (acc ++ [g x]) (fun y hy => ho y (List.mem_cons_of_mem _ hy)) (by simp; omega) (by rw [← app_mid]; exact hl)
      rw [← app_mid, len_snoc] at ih
      rw [List.filter_cons_of_pos hp, List.map_cons, show acc ++ g x :: (r.filter p).map g = acc ++ [g x] ++ (r.filter p).map g by simp]
      exact Ev.step (fun k => by rw [hs, if_pos hp]) ih
    · have ih := filtS_go L p g ok z hstep hend r (pre ++ [x]) acc (fun y hy => ho y (List.mem_cons_of_mem _ hy)) (by omega) (by rw [← app_mid]; exact hl)
      rw [← app_mid, len_snoc] at ih
      rw [List.filter_cons_of_neg hp]
      exact Ev.step (fun k => by rw [hs, if_neg hp]) ih
def lowS (s : ByteArray) : ByteArray := strOfNums ((bytesOf s).map lowI)
def sameB (a b : ByteArray) : Bool := (lowS a).toList == (lowS b).toList
theorem specFold_is (s : ByteArray) (h : s.size ≤ 1099511627776) : spec_Fold.f s = some (lowS s) := by unfold spec_Fold.f; rw [if_pos h]; rfl
theorem implFold_is (s : ByteArray) (h : s.size ≤ 1099511627776) : impl_Fold.f s = some (lowS s) := by unfold impl_Fold.f; rw [if_pos h]; rfl
theorem specSame_is (a b : ByteArray) (ha : a.size ≤ 1099511627776) (hb : b.size ≤ 1099511627776) : spec_SameFold.f a b = some (sameB a b) := by
  unfold spec_SameFold.f; rw [specFold_is a ha, specFold_is b hb]; rfl
theorem implSame_is (a b : ByteArray) (ha : a.size ≤ 1099511627776) (hb : b.size ≤ 1099511627776) : impl_SameFold.f a b = some (sameB a b) := by
  unfold impl_SameFold.f; rw [implFold_is a ha, implFold_is b hb]; rfl
def valsF (l : List IFld) (n : ByteArray) : List ByteArray := (l.filter fun x => sameB x.f0 n).map (·.f1)
def vals (l : List IFld) (n : ByteArray) : List ByteArray := if fldsOk l = true then valsF l n else []
def smallF (x : IFld) : Prop := x.f0.size ≤ 1048576 ∧ x.f1.size ≤ 1048576
theorem specValues_is (l : List IFld) (n : ByteArray) (hl : l.length ≤ 1048576) (ho : ∀ x ∈ l, smallF x) (hn : n.size ≤ 1048576) : Ev (fun k => spec_Values.f k l n) (vals l n) := by
  unfold spec_Values.f vals
  refine (specFieldsOk_is l).bind ?_
  by_cases h : fldsOk l = true
  · simp only [if_pos h]
    have := filtS_go (fun k l acc i => spec_Values.l0 k l n acc i) (fun x => sameB x.f0 n) (·.f1) smallF z23
      (fun k l acc i h0 h1 h2 h3 => by simp only [spec_Values.l0]; rw [if_pos h1, if_pos h0]; simp only [rd_T23]; rw [specSame_is _ _ (by have := h3.1; omega) (by omega)]; simp only [Option.bind_some, if_pos h2])
      (fun k l acc => by simp only [spec_Values.l0]; rw [if_neg (by omega)]) l [] [] ho (by simpa using hl) (by simpa using hl)
    simpa [valsF] using this
  · simp only [if_neg h]; exact Ev.now _
theorem implValues_is (l : List IFld) (n : ByteArray) (hl : l.length ≤ 1048576) (ho : ∀ x ∈ l, smallF x) (hn : n.size ≤ 1048576) : Ev (fun k => impl_Values.f k l n) (vals l n) := by
  unfold impl_Values.f vals
  refine (implFieldsOk_is l).bind ?_
  by_cases h : fldsOk l = true
  · simp only [if_pos h]
    have := filtS_go (fun k l acc i => impl_Values.l0 k n acc l (l.length : Int) i) (fun x => sameB x.f0 n) (·.f1) smallF z23
      (fun k l acc i h0 h1 h2 h3 => by simp only [impl_Values.l0]; rw [if_pos h1, if_pos h0, if_pos h1]; simp only [rd_T23]; rw [implSame_is _ _ (by have := h3.1; omega) (by omega)]; simp only [Option.bind_some, if_pos h2])
      (fun k l acc => by simp only [impl_Values.l0]; rw [if_neg (by omega)]) l [] [] ho (by simpa using hl) (by simpa using hl)
    simpa [valsF] using this
  · simp only [if_neg h]; exact Ev.now _
theorem le_sum_mem : ∀ (l : List Nat) (x : Nat), x ∈ l → x ≤ l.sum
  | a :: l, x, h => by
    simp only [List.sum_cons]
    rcases List.mem_cons.1 h with rfl | h
    · omega
    · have := le_sum_mem l x h; omega
theorem smallF_of (l : List LFld) (h : (((l.map wFld).sum : Nat) : Int) ≤ 1048576) : ∀ x ∈ l.map cFld, smallF x := by
  intro x hx
  obtain ⟨y, hy, rfl⟩ := List.mem_map.1 hx
  have : wFld y ≤ (l.map wFld).sum := le_sum_mem _ _ (List.mem_map_of_mem hy)
  simp only [wFld] at this
  exact ⟨by simp only [cFld]; omega, by simp only [cFld]; omega⟩

/-! #### Joined -/
def totF (l : List IFld) : Nat := (l.map fun x => x.f0.size + x.f1.size).sum
theorem totF_conv (l : List LFld) : totF (l.map cFld) = (l.map wFld).sum := by simp [totF, wFld, cFld, Function.comp_def]; rfl
theorem smallF_tot (l : List IFld) (h : totF l ≤ 1048576) : ∀ x ∈ l, smallF x := by
  intro x hx
  have : x.f0.size + x.f1.size ≤ totF l := le_sum_mem _ _ (List.mem_map_of_mem (f := fun x : IFld => x.f0.size + x.f1.size) hx)
  exact ⟨by omega, by omega⟩
def totS (l : List ByteArray) : Nat := (l.map (·.size)).sum
theorem totS_vals (l : List IFld) (n : ByteArray) : totS (vals l n) ≤ totF l := by
  have : ∀ l : List IFld, totS (valsF l n) ≤ totF l := by
    intro l
    induction l with
    | nil => simp [totS, totF, valsF]
    | cons x r ih =>
      by_cases hp : sameB x.f0 n = true
      · simp [totS, totF, valsF, List.filter_cons, hp] at ih ⊢; omega
      · simp [totS, totF, valsF, List.filter_cons, hp] at ih ⊢; omega
  unfold vals
  split
  · exact this l
  · simp [totS]
theorem len_vals (l : List IFld) (n : ByteArray) : (vals l n).length ≤ 20 := by
  unfold vals
  split
  · rename_i h
    simp [fldsOk] at h
    have : (valsF l n).length ≤ l.length := by simpa [valsF] using List.length_filter_le _ l
    omega
  · simp
def commaB : List UInt8 := [44, 32]
def joined (v : List ByteArray) : ByteArray := mkB (Lib.join (v.map bl) commaB)
theorem bl_append (a b : ByteArray) : bl (a ++ b) = bl a ++ bl b := by simp [bl]
theorem bl_length (a : ByteArray) : (bl a).length = a.size := by simp [bl]
theorem specJoined_go : ∀ (r pre : List ByteArray) (acc : ByteArray), pre ≠ [] → (pre ++ r).length ≤ 1048576 → acc.size + totS r + 2 * r.length ≤ 1099511627776 →
    Ev (fun k => spec_Joined.l0 k (pre ++ r) acc pre.length) (mkB (bl acc ++ Lib.joinTail commaB (r.map bl)))
  | [], pre, acc, _, _, _ => Ev.step (f := fun _ => some acc) (fun k => by simp [spec_Joined.l0]) (by simpa [Lib.joinTail, mk_bl] using Ev.now acc)
  | x :: r, pre, acc, hp, hl, ht => by
    have htc : totS (x :: r) = x.size + totS r := by simp [totS]
    rw [htc, List.length_cons] at ht
    have hs1 : (acc ++ (⟨#[44, 32]⟩ : ByteArray)).size = acc.size + 2 := by rw [ByteArray.size_append]; rfl
    have hs2 : (acc ++ (⟨#[44, 32]⟩ : ByteArray) ++ x).size = acc.size + 2 + x.size := by rw [ByteArray.size_append, hs1]
    have ih := specJoined_go r (pre ++ [x]) (acc ++ (⟨#[44, 32]⟩ : ByteArray) ++ x) (by simp) (by rw [← app_mid]; exact hl) (by rw [hs2]; omega)
    rw [← app_mid, len_snoc] at ih
    have e : bl acc ++ Lib.joinTail commaB ((x :: r).map bl) = bl (acc ++ (⟨#[44, 32]⟩ : ByteArray) ++ x) ++ Lib.joinTail commaB (r.map bl) := by
      simp [Lib.joinTail, bl_append, commaB]; rfl
    rw [e]
    refine Ev.step (fun k => ?_) ih
    have h0 : 0 < pre.length := List.length_pos_iff.2 hp
    simp only [spec_Joined.l0]
    simp at hl
    rw [if_pos (len_mid ..), if_pos (by omega), if_pos (by omega), if_pos (by omega)]
    simp only [rdOf, getD_mid]
    rw [if_pos (by rw [hs1]; omega), wrap_id (by omega) (by omega)]
theorem specJoin_is (v : List ByteArray) (hl : v.length ≤ 1048576) (ht : totS v + 2 * v.length ≤ 1099511627776) : Ev (fun k => spec_Joined.l0 k v (⟨#[]⟩ : ByteArray) 0) (joined v) := by
  cases v with
  | nil => exact Ev.step (f := fun _ => some (⟨#[]⟩ : ByteArray)) (fun k => by simp [spec_Joined.l0]) (by simpa [joined, Lib.join_nil, mkB] using Ev.now (⟨#[]⟩ : ByteArray))
  | cons x r =>
    have htc : totS (x :: r) = x.size + totS r := by simp [totS]
    rw [htc, List.length_cons] at ht
    have hs : ((⟨#[]⟩ : ByteArray) ++ x).size = x.size := by rw [ByteArray.size_append, show (⟨#[]⟩ : ByteArray).size = 0 from rfl, Nat.zero_add]
    have ih := specJoined_go r [x] ((⟨#[]⟩ : ByteArray) ++ x) (by simp) (by simpa using hl) (by rw [hs]; omega)
    have e : joined (x :: r) = mkB (bl ((⟨#[]⟩ : ByteArray) ++ x) ++ Lib.joinTail commaB (r.map bl)) := by
      unfold joined; rw [List.map_cons, Lib.join_cons, bl_append]; rfl
    rw [e]
    refine Ev.step (fun k => ?_) ih
    simp only [spec_Joined.l0]
    have hrd : rdOf ByteArray.empty (x :: r) 0 = x := rfl
    have hz : (⟨#[]⟩ : ByteArray).size = 0 := rfl
    have hw : wrap64 (0 + 1) = (([x] : List ByteArray).length : Int) := by simp [wrap64]
    rw [if_pos (by rw [List.length_cons]; omega), if_neg (by omega), if_pos (by omega), hrd, if_pos (by rw [hz]; omega), hw]
    rfl
theorem specJoined_is (l : List IFld) (n : ByteArray) (hl : l.length ≤ 1048576) (ht : totF l ≤ 1048576) (hn : n.size ≤ 1048576) : Ev (fun k => spec_Joined.f k l n) (joined (vals l n)) := by
  have h1 := totS_vals l n
  have h2 := len_vals l n
  unfold spec_Joined.f
  exact (specValues_is l n hl (smallF_tot l ht) hn).bind (specJoin_is _ (by omega) (by omega))
theorem joinTail_len (v : List ByteArray) : (Lib.joinTail commaB (v.map bl)).length = totS v + 2 * v.length := by
  induction v with
  | nil => rfl
  | cons x r ih =>
    have h1 : Lib.joinTail commaB ((x :: r).map bl) = commaB ++ bl x ++ Lib.joinTail commaB (r.map bl) := by simp [Lib.joinTail]
    have h2 : totS (x :: r) = x.size + totS r := by simp [totS]
    rw [h1, h2, List.length_append, List.length_append, ih, bl_length, List.length_cons]
    simp [commaB]; omega
theorem join_len (v : List ByteArray) : (Lib.join (v.map bl) commaB).length ≤ totS v + 2 * v.length := by
  cases v with
  | nil => simp [Lib.join_nil]
  | cons x r =>
    have h2 : totS (x :: r) = x.size + totS r := by simp [totS]
    rw [List.map_cons, Lib.join_cons, List.length_append, joinTail_len, bl_length, h2, List.length_cons]; omega
theorem implJoined_is (l : List IFld) (n : ByteArray) (hl : l.length ≤ 1048576) (ht : totF l ≤ 1048576) (hn : n.size ≤ 1048576) : Ev (fun k => impl_Joined.f k l n) (joined (vals l n)) := by
  have h1 := totS_vals l n
  have h2 := len_vals l n
  have h3 := join_len (vals l n)
  unfold impl_Joined.f
  refine (implValues_is l n hl (smallF_tot l ht) hn).bind ?_
  have hx : strings_Join.f (vals l n) (⟨#[44, 32]⟩ : ByteArray) = some (joined (vals l n)) := by
    unfold strings_Join.f
    exact if_pos ⟨by omega, by show (Lib.join ((vals l n).map bl) commaB).length ≤ _; omega⟩
  rw [hx]
  exact Ev.now _

theorem FnExactJoined : laws_FnExactJoined.Pure := by
  intro l n ⟨hl, hb⟩ hn
  obtain ⟨q, hq, hle, hs⟩ := szFieldS_is l 1048576 hb hl (by omega) (by omega)
  refine Ev.rounds ?_
  unfold laws_FnExactJoined.f
  by_cases hn2 : (n.size : Int) > 1048576
  · simp only [if_pos hn2]; exact Ev.now _
  simp only [if_neg hn2]
  refine hq.bind ?_
  by_cases h : q < 0
  · simp only [h, if_true]; exact Ev.now _
  · simp only [h, if_false]
    have hl2 : l.length ≤ 1048576 := by have := hs (by omega); omega
    have hsum : (l.map wFld).sum ≤ 1048576 := by have := hs (by omega); omega
    have hl3 : (l.map cFld).length ≤ 1048576 := by simpa using hl2
    have ht : totF (l.map cFld) ≤ 1048576 := by rw [totF_conv]; exact hsum
    refine (toFieldS_is l hl2).bind ?_
    refine (specJoined_is _ n hl3 ht (by omega)).bind ?_
    refine (toFieldS_is l hl2).bind ?_
    refine (implJoined_is _ n hl3 ht (by omega)).bind ?_
    simp only [if_true]
    refine (toFieldS_is l hl2).bind ?_
    refine (eqFieldS_is _ hl3).bind ?_
    simpa using Ev.now true

end Go.Proofs.Ytnfjjbpochmhpaa.Pure
