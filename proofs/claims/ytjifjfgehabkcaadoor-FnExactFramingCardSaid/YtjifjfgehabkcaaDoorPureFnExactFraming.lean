/- Framing of the program and of the reference agree, the argument stays as it was, and the call returns true, for every list of fields and both marks. No condition. -/
import Derived.Test.YtjifjfgehabkcaaDoorGFnExactFramingx9
import Derived.Laws.Strings
import Derived.Lib.AtoiAll
import Derived.Lib.ItoaNum
import Derived.OpenShut
namespace Go.Proofs.YtjifjfgehabkcaaDoor.Pure
open Go.RowKit Go.Proofs.YtjifjfgehabkcaaDoor.GFnExactFraming Go.Proofs.YtjifjfgehabkcaaDoorW.PrintWords Go.Proofs.YtjifjfgehabkcaaDoorW.PrintLast Go.Proofs.YtjifjfgehabkcaaDoorW.PrintMore
set_option linter.unusedVariables false
set_option linter.unusedSimpArgs false

/-! #### Bytes -/
/-- More rounds: an Ev of a function of its own. -/
theorem Ev.mono1 {α : Type} {g : Nat → Option α} {r : α} (K : Nat) (h : ∀ k, g (k + K) = some r) : Ev g r :=
  ⟨K, fun k hk => by obtain ⟨m, rfl⟩ : ∃ m, k = m + K := ⟨k - K, by omega⟩; exact h m⟩
theorem toList_inj {a b : ByteArray} (h : a.toList = b.toList) : a = b := by
  rw [ByteArray.toList_eq, ByteArray.toList_eq] at h
  cases a; cases b; simp_all
theorem getD_mid {α : Type} (pre : List α) (x : α) (r : List α) (z : α) : (pre ++ x :: r).getD ((pre.length : Int).toNat) z = x := by simp [List.getD]
theorem wrap_succ {n : Nat} (h : n < 9223372036854775807) : wrap64 ((n : Int) + 1) = ((n + 1 : Nat) : Int) := by unfold wrap64; omega
theorem wrap_id {a : Int} (h1 : -9223372036854775808 ≤ a) (h2 : a ≤ 9223372036854775807) : wrap64 a = a := by unfold wrap64; omega
theorem len_mid {α : Type} (pre : List α) (x : α) (r : List α) : (pre.length : Int) < ((pre ++ x :: r).length : Int) := by simp; omega
theorem app_mid {α : Type} (pre : List α) (x : α) (r : List α) : pre ++ x :: r = (pre ++ [x]) ++ r := by simp
theorem len_snoc {α : Type} (pre : List α) (x : α) : ((pre ++ [x]).length : Int) = (pre.length : Int) + 1 := by simp
theorem toList_length (s : ByteArray) : s.toList.length = s.size := by rw [ByteArray.toList_eq, Array.length_toList]; rfl
theorem size_pos_iff (s : ByteArray) : (s.toList = ([] : List UInt8)) ↔ (s.size : Int) = 0 := by
  rw [← List.length_eq_zero_iff, toList_length]; omega
theorem size_strOf (xs : List Int) : (strOfNums xs).size = xs.length := by
  show (strOfNums xs).data.size = _
  simp [strOfNums]
theorem length_bytesOf (s : ByteArray) : (bytesOf s).length = s.size := bytesOf_length s
theorem less_irrefl : ∀ l : List UInt8, Op.bytesLess l l = false
  | [] => rfl
  | a :: l => by simp [Op.bytesLess, less_irrefl l]
theorem less_total : ∀ l m : List UInt8, l ≠ m → Op.bytesLess l m = !Op.bytesLess m l
  | [], [], h => absurd rfl h
  | [], _ :: _, _ => rfl
  | _ :: _, [], _ => rfl
  | a :: l, b :: m, h => by
    by_cases e : a = b
    · subst e
      have := less_total l m (fun e => h (by rw [e]))
      simp [Op.bytesLess, this]
    · have hne : (a == b) = false := by simpa using e
      have hne' : (b == a) = false := by simpa using fun x => e x.symm
      simp only [Op.bytesLess, hne, hne', Bool.false_and, Bool.or_false]
      rcases Nat.lt_trichotomy a.toNat b.toNat with h1 | h1 | h1
      · have x1 : a < b := UInt8.lt_iff_toNat_lt.2 h1
        have x2 : ¬ b < a := fun x => by have := UInt8.lt_iff_toNat_lt.1 x; omega
        simp [x1, x2]
      · exact absurd (UInt8.toNat_inj.1 h1) e
      · have x1 : b < a := UInt8.lt_iff_toNat_lt.2 h1
        have x2 : ¬ a < b := fun x => by have := UInt8.lt_iff_toNat_lt.1 x; omega
        simp [x1, x2]

/-! #### Str -/
def mkB (l : List UInt8) : ByteArray := ⟨l.toArray⟩
def bl (s : ByteArray) : List UInt8 := s.data.toList
theorem mk_bl (s : ByteArray) : mkB (bl s) = s := by cases s; simp [mkB, bl]
theorem bl_mk (l : List UInt8) : bl (mkB l) = l := by simp [mkB, bl]
theorem size_mk (l : List UInt8) : (mkB l).size = l.length := by show (mkB l).data.size = _; simp [mkB]
theorem size_bl (s : ByteArray) : (bl s).length = s.size := by rw [bl, Array.length_toList]; rfl
theorem toList_bl (s : ByteArray) : s.toList = bl s := ByteArray.toList_eq s
theorem toList_mk (l : List UInt8) : (mkB l).toList = l := by rw [toList_bl, bl_mk]
theorem mkB_inj {l m : List UInt8} (h : mkB l = mkB m) : l = m := by rw [← bl_mk l, h, bl_mk]
theorem getB (l : List UInt8) (i : Nat) (h : i < (mkB l).size) : (mkB l)[i]'h = l[i]'(by rwa [size_mk] at h) := by
  show (mkB l).data[i]'h = _
  simp [mkB]
theorem bt_at_ (l : List UInt8) (i : Nat) (h : i < l.length) : bt (mkB l) (i : Int) = ((l[i]'h).toNat : Int) := by
  unfold bt
  rw [dif_pos (by rw [size_mk]; simpa using h), getB]
  simp
theorem bt_mid (pre : List UInt8) (b : UInt8) (r : List UInt8) : bt (mkB (pre ++ b :: r)) (pre.length : Int) = (b.toNat : Int) := by
  rw [bt_at_ _ _ (by simp)]
  simp
theorem extract_mk (l : List UInt8) (i j : Nat) : (mkB l).extract i j = mkB ((l.drop i).take (j - i)) := by
  apply toList_inj
  rw [toList_mk, toList_bl, bl, ByteArray.data_extract, Array.toList_extract]
  simp [mkB, List.extract]
theorem drop_mid (pre : List UInt8) (b : UInt8) (r : List UInt8) : (pre ++ b :: r).drop (pre.length + 1) = r := by
  rw [app_mid, List.drop_left' (by simp)]
theorem size_lt_mid (pre : List UInt8) (b : UInt8) (r : List UInt8) : (pre.length : Int) < ((mkB (pre ++ b :: r)).size : Int) := by rw [size_mk]; exact len_mid ..
theorem u8_lt (b : UInt8) : (b.toNat : Int) < 256 := by have := b.toNat_lt; omega
theorem toUInt8_toNat (b : UInt8) : ((b.toNat : Int)).toNat.toUInt8 = b := by simp
/-- 'for all bytes', as a loop over a string's places. -/
theorem all_loop (F : Nat → ByteArray → Int → Option Bool) (G : Nat → Int → Option Bool) (p : UInt8 → Bool) (hG : ∀ b : UInt8, Ev (fun k => G k b.toNat) (p b))
    (hF : ∀ k s i, F (k + 1) s i = if i < (s.size : Int) then (if 0 ≤ i then (G k (bt s i)).bind fun t => (if t = true then F k s (wrap64 (i + 1)) else some false) else none) else some true) :
    ∀ (r pre : List UInt8), (pre ++ r).length ≤ 9223372036854775806 → Ev (fun k => F k (mkB (pre ++ r)) pre.length) (r.all p)
  | [], pre, _ => Ev.step (f := fun _ => some true) (fun k => by rw [hF, size_mk]; simp) (Ev.now _)
  | b :: r, pre, hl => by
    have ih := all_loop F G p hG hF r (pre ++ [b]) (by rw [← app_mid]; exact hl)
    rw [← app_mid, len_snoc] at ih
    simp at hl
    refine Ev.step (f := fun k => (G k b.toNat).bind fun t => (if t = true then F k (mkB (pre ++ b :: r)) (pre.length + 1) else some false)) (fun k => ?_) ?_
    · rw [hF, if_pos (size_lt_mid ..), if_pos (by omega), bt_mid, wrap_id (by omega) (by omega)]
    refine (hG b).bind ?_
    cases hp : p b
    · simpa [List.all_cons, hp] using Ev.now false
    · simpa [List.all_cons, hp] using ih
theorem all_ev (F : Nat → ByteArray → Int → Option Bool) (G : Nat → Int → Option Bool) (p : UInt8 → Bool) (hG : ∀ b : UInt8, Ev (fun k => G k b.toNat) (p b))
    (hF : ∀ k s i, F (k + 1) s i = if i < (s.size : Int) then (if 0 ≤ i then (G k (bt s i)).bind fun t => (if t = true then F k s (wrap64 (i + 1)) else some false) else none) else some true)
    (s : ByteArray) (hs : s.size ≤ 9223372036854775806) : Ev (fun k => F k s 0) ((bl s).all p) := by
  have := all_loop F G p hG hF (bl s) [] (by simpa [size_bl] using hs)
  simpa [mk_bl] using this
theorem Ev.const {α : Type} {x : Option α} {r : α} (h : x = some r) : Ev (fun _ => x) r := ⟨0, fun _ _ => h⟩

/-! #### Mids -/
theorem take_mid (pre m suf : List UInt8) : ((pre ++ (m ++ suf)).drop pre.length).take (pre.length + m.length - pre.length) = m := by simp
theorem bt_mid2 (pre m : List UInt8) (b : UInt8) (suf : List UInt8) (i : Int) (hi : i = (pre.length : Int) + (m.length : Int)) : bt (mkB (pre ++ (m ++ b :: suf))) i = (b.toNat : Int) := by
  have := bt_mid (pre ++ m) b suf
  rw [List.append_assoc] at this
  rw [hi, ← this]; simp
theorem u8_nat (b c : UInt8) : (b.toNat : Int) = (c.toNat : Int) ↔ b = c := by rw [← UInt8.toNat_inj]; omega

/-! #### Trim -/
def wh (b : UInt8) : Bool := decide (b.toNat = 32) || decide (b.toNat = 9)
def trimB (l : List UInt8) : List UInt8 := ((l.dropWhile wh).reverse.dropWhile wh).reverse
theorem l1white_is (b : UInt8) : spec_l1white.f (b.toNat : Int) = some (wh b) := by
  unfold spec_l1white.f wh
  by_cases h : b.toNat = 32
  · rw [if_pos (by omega)]; simp [h]
  · rw [if_neg (by omega)]
    by_cases h' : b.toNat = 9
    · simp [h']
    · simp [h, h']; omega
theorem isSpace_is (b : UInt8) : impl_isSpace.f (b.toNat : Int) = some (wh b) := l1white_is b
theorem specTrim_end : ∀ (m pre suf : List UInt8), (pre ++ (m.reverse ++ suf)).length ≤ 9223372036854775806 →
    Ev (fun k => spec_Trim.l1 k (mkB (pre ++ (m.reverse ++ suf))) pre.length ((pre.length : Int) + m.length)) (mkB (m.dropWhile wh).reverse)
  | [], pre, suf, hl => by
    refine Ev.step (f := fun _ => some (mkB [])) (fun k => ?_) (by simpa using Ev.now (mkB []))
    simp only [spec_Trim.l1]
    simp at hl
    rw [if_neg (by simp), if_pos (by omega), if_pos (by simp), if_pos (by rw [size_mk]; simp <;> omega), extract_mk]
    simp
  | b :: m, pre, suf, hl => by
    have e : pre ++ ((b :: m).reverse ++ suf) = pre ++ (m.reverse ++ b :: suf) := by simp
    rw [e] at hl ⊢
    have hl2 := hl
    simp at hl2
    have hb : bt (mkB (pre ++ (m.reverse ++ b :: suf))) ((pre.length : Int) + m.length) = (b.toNat : Int) := bt_mid2 pre m.reverse b suf _ (by simp)
    have hw : wrap64 ((pre.length : Int) + ((b :: m).length : Int) - 1) = (pre.length : Int) + m.length := by rw [wrap_id (by simp <;> omega) (by simp <;> omega)]; simp <;> omega
    by_cases hwb : wh b = true
    · have ih := specTrim_end m pre (b :: suf) hl
      rw [List.dropWhile_cons, if_pos hwb]
      refine Ev.step (fun k => ?_) ih
      simp only [spec_Trim.l1]
      rw [if_pos (by simp <;> omega), hw, if_pos (by omega), if_pos (by rw [size_mk]; simp <;> omega), hb, l1white_is, hwb]
      simp
    · rw [List.dropWhile_cons, if_neg hwb]
      have hwb' : wh b = false := by simpa using hwb
      refine Ev.step (f := fun _ => some (mkB (b :: m).reverse)) (fun k => ?_) (Ev.now _)
      simp only [spec_Trim.l1]
      rw [if_pos (by simp <;> omega), hw, if_pos (by omega), if_pos (by rw [size_mk]; simp <;> omega), hb, l1white_is, hwb']
      simp only [Option.bind_some, Bool.false_eq_true, if_false]
      rw [if_pos (by omega), if_pos (by simp <;> omega), if_pos (by rw [size_mk]; simp <;> omega), extract_mk]
      have hn : ((pre.length : Int) + ((b :: m).length : Int)).toNat = pre.length + (b :: m).reverse.length := by simp; omega
      rw [hn, Int.toNat_natCast, ← e, take_mid]
theorem specTrim_go : ∀ (r pre : List UInt8), (pre ++ r).length ≤ 9223372036854775806 →
    Ev (fun k => spec_Trim.l0 k (mkB (pre ++ r)) pre.length) (mkB (trimB r))
  | [], pre, hl => by
    have := specTrim_end [] pre [] (by simpa using hl)
    refine Ev.step (f := fun k => spec_Trim.j1 k (mkB (pre ++ [])) pre.length) (fun k => by simp only [spec_Trim.l0]; rw [if_neg (by rw [size_mk]; simp)]) ?_
    refine Ev.step (f := fun k => spec_Trim.l1 k (mkB (pre ++ [])) pre.length ((mkB (pre ++ [])).size : Int)) (fun k => by simp only [spec_Trim.j1]) ?_
    rw [size_mk]
    simpa [trimB] using this
  | b :: r, pre, hl => by
    have hl2 := hl
    simp at hl2
    by_cases hwb : wh b = true
    · have ih := specTrim_go r (pre ++ [b]) (by rw [← app_mid]; exact hl)
      rw [← app_mid, len_snoc] at ih
      have et : trimB (b :: r) = trimB r := by simp [trimB, List.dropWhile_cons, hwb]
      rw [et]
      refine Ev.step (fun k => ?_) ih
      simp only [spec_Trim.l0]
      rw [if_pos (size_lt_mid ..), if_pos (by omega), bt_mid, l1white_is, hwb, wrap_id (by omega) (by omega)]
      simp
    · have hwb' : wh b = false := by simpa using hwb
      have := specTrim_end (b :: r).reverse pre [] (by simpa using hl)
      refine Ev.step (f := fun k => spec_Trim.j1 k (mkB (pre ++ b :: r)) pre.length) (fun k => ?_) ?_
      · simp only [spec_Trim.l0]
        rw [if_pos (size_lt_mid ..), if_pos (by omega), bt_mid, l1white_is, hwb']
        simp
      refine Ev.step (f := fun k => spec_Trim.l1 k (mkB (pre ++ b :: r)) pre.length ((mkB (pre ++ b :: r)).size : Int)) (fun k => by simp only [spec_Trim.j1]) ?_
      have e2 : ((mkB (pre ++ b :: r)).size : Int) = (pre.length : Int) + ((b :: r).reverse.length : Int) := by rw [size_mk]; simp
      rw [e2]
      have et : trimB (b :: r) = ((b :: r).reverse.dropWhile wh).reverse := by simp only [trimB, List.dropWhile_cons, hwb', Bool.false_eq_true, if_false]
      rw [et]
      simpa using this
theorem specTrim_is (s : ByteArray) (hs : s.size ≤ 9223372036854775806) : Ev (fun k => spec_Trim.f k s) (mkB (trimB (bl s))) := by
  have := specTrim_go (bl s) [] (by simpa [size_bl] using hs)
  simpa [mk_bl, spec_Trim.f] using this
theorem implTrim_end : ∀ (m : List UInt8), m.length ≤ 9223372036854775806 → Ev (fun k => impl_Trim.l1 k (mkB m.reverse)) (mkB (m.dropWhile wh).reverse)
  | [], _ => Ev.step (f := fun _ => some (mkB [])) (fun k => by simp [impl_Trim.l1, toList_mk]) (by simpa using Ev.now (mkB []))
  | b :: m, hl => by
    simp at hl
    have hw : wrap64 (((mkB (b :: m).reverse).size : Int) - 1) = (m.length : Int) := by rw [size_mk, wrap_id (by simp <;> omega) (by simp <;> omega)]; simp
    have hb : bt (mkB (b :: m).reverse) (m.length : Int) = (b.toNat : Int) := by
      have := bt_mid m.reverse b []
      simpa using this
    have hcell : ∀ k, impl_Trim.l1 (k + 1) (mkB (b :: m).reverse) = if wh b = true then impl_Trim.l1 k (mkB m.reverse) else some (mkB (b :: m).reverse) := by
      intro k
      simp only [impl_Trim.l1]
      rw [if_neg (by rw [toList_mk]; simp), hw, if_pos (by omega), if_pos (by rw [size_mk]; simp <;> omega), hb, isSpace_is]
      simp only [Option.bind_some]
      split
      · rw [if_pos (by rw [size_mk]; simp <;> omega), extract_mk]
        congr 2
        simp
      · rfl
    by_cases hwb : wh b = true
    · rw [List.dropWhile_cons, if_pos hwb]
      exact Ev.step (fun k => by rw [hcell, if_pos hwb]) (implTrim_end m (by omega))
    · rw [List.dropWhile_cons, if_neg hwb]
      exact Ev.step (f := fun _ => some (mkB (b :: m).reverse)) (fun k => by rw [hcell, if_neg hwb]) (Ev.now _)
theorem implTrim_go : ∀ (r : List UInt8), r.length ≤ 9223372036854775806 → Ev (fun k => impl_Trim.l0 k (mkB r)) (mkB (trimB r))
  | [], _ => by
    have := implTrim_end [] (by simp)
    refine Ev.step (f := fun k => impl_Trim.j1 k (mkB [])) (fun k => by simp [impl_Trim.l0, toList_mk]) ?_
    exact Ev.step (f := fun k => impl_Trim.l1 k (mkB [])) (fun k => by simp only [impl_Trim.j1]) (by simpa [trimB] using this)
  | b :: r, hl => by
    simp at hl
    have hb : bt (mkB (b :: r)) 0 = (b.toNat : Int) := by simpa using bt_mid [] b r
    by_cases hwb : wh b = true
    · have ih := implTrim_go r (by omega)
      have et : trimB (b :: r) = trimB r := by simp [trimB, List.dropWhile_cons, hwb]
      rw [et]
      refine Ev.step (fun k => ?_) ih
      simp only [impl_Trim.l0]
      rw [if_neg (by rw [toList_mk]; simp), if_pos (by rw [size_mk]; simp <;> omega), hb, isSpace_is, hwb]
      simp only [Option.bind_some, if_true]
      rw [if_pos (by rw [size_mk]; simp <;> omega), extract_mk]
      simp [size_mk]
    · have hwb' : wh b = false := by simpa using hwb
      have := implTrim_end (b :: r).reverse (by simpa using hl)
      refine Ev.step (f := fun k => impl_Trim.j1 k (mkB (b :: r))) (fun k => ?_) ?_
      · simp only [impl_Trim.l0]
        rw [if_neg (by rw [toList_mk]; simp), if_pos (by rw [size_mk]; simp <;> omega), hb, isSpace_is, hwb']
        simp
      refine Ev.step (f := fun k => impl_Trim.l1 k (mkB (b :: r))) (fun k => by simp only [impl_Trim.j1]) ?_
      have et : trimB (b :: r) = ((b :: r).reverse.dropWhile wh).reverse := by simp only [trimB, List.dropWhile_cons, hwb', Bool.false_eq_true, if_false]
      rw [et]
      simpa using this
theorem implTrim_is (s : ByteArray) (hs : s.size ≤ 9223372036854775806) : Ev (fun k => impl_Trim.f k s) (mkB (trimB (bl s))) := by
  have := implTrim_go (bl s) (by simpa [size_bl] using hs)
  simpa [mk_bl, impl_Trim.f] using this

/-! #### Chars -/
def plB (b : UInt8) : Bool := decide (b.toNat = 9) || (decide (32 ≤ b.toNat) && decide (b.toNat ≠ 127))
theorem specPlain_is (b : UInt8) : spec_l1plain.f (b.toNat : Int) = some (plB b) := by
  unfold spec_l1plain.f plB
  by_cases h : b.toNat = 9
  · rw [if_pos (by omega)]; simp [h]
  · rw [if_neg (by omega)]
    by_cases h' : 32 ≤ b.toNat
    · rw [if_pos (by omega)]; congr 1; rw [Bool.eq_iff_iff]; simp [h, h']; omega
    · rw [if_neg (by omega)]; simp [h, h']
theorem implPlain_is (b : UInt8) : impl_isPlain.f (b.toNat : Int) = some (plB b) := specPlain_is b

/-! #### TokB -/
def lowB (b : UInt8) : Bool := decide (97 ≤ b.toNat) && decide (b.toNat ≤ 122)
def uppB (b : UInt8) : Bool := decide (65 ≤ b.toNat) && decide (b.toNat ≤ 90)
def digB (b : UInt8) : Bool := decide (48 ≤ b.toNat) && decide (b.toNat ≤ 57)
theorem isLower_is (b : UInt8) : impl_isLower.f (b.toNat : Int) = some (lowB b) := by
  unfold impl_isLower.f lowB
  by_cases h : 97 ≤ b.toNat
  · rw [if_pos (by omega)]; congr 1; rw [Bool.eq_iff_iff]; simp [h]; omega
  · rw [if_neg (by omega)]; simp [h]
theorem isUpper_is (b : UInt8) : impl_isUpper.f (b.toNat : Int) = some (uppB b) := by
  unfold impl_isUpper.f uppB
  by_cases h : 65 ≤ b.toNat
  · rw [if_pos (by omega)]; congr 1; rw [Bool.eq_iff_iff]; simp [h]; omega
  · rw [if_neg (by omega)]; simp [h]
theorem isDigit_is (b : UInt8) : impl_isDigit.f (b.toNat : Int) = some (digB b) := by
  unfold impl_isDigit.f digB
  by_cases h : 48 ≤ b.toNat
  · rw [if_pos (by omega)]; congr 1; rw [Bool.eq_iff_iff]; simp [h]; omega
  · rw [if_neg (by omega)]; simp [h]
theorem l1digit_is (b : UInt8) : spec_l1digit.f (b.toNat : Int) = some (digB b) := isDigit_is b
theorem has_go (c : Int) : ∀ (r pre : List UInt8), (pre ++ r).length ≤ 9223372036854775806 → Ev (fun k => spec_l1has.l0 k (mkB (pre ++ r)) c pre.length) (r.any fun x => decide ((x.toNat : Int) = c))
  | [], pre, hl => Ev.step (f := fun _ => some false) (fun k => by simp only [spec_l1has.l0]; rw [if_neg (by rw [size_mk]; simp)]) (Ev.now _)
  | b :: r, pre, hl => by
    have ih := has_go c r (pre ++ [b]) (by rw [← app_mid]; exact hl)
    rw [← app_mid, len_snoc] at ih
    simp at hl
    by_cases h : (b.toNat : Int) = c
    · refine Ev.step (f := fun _ => some true) (fun k => ?_) (by simpa [h] using Ev.now true)
      simp only [spec_l1has.l0]
      rw [if_pos (size_lt_mid ..), if_pos (by omega), bt_mid, if_pos h]
    · refine Ev.step (fun k => ?_) (by simpa [h] using ih)
      simp only [spec_l1has.l0]
      rw [if_pos (size_lt_mid ..), if_pos (by omega), bt_mid, if_neg h, wrap_id (by omega) (by omega)]
theorem has_is (set : List UInt8) (b : UInt8) (h : set.length ≤ 9223372036854775806) : Ev (fun k => spec_l1has.f k (mkB set) (b.toNat : Int)) (set.contains b) := by
  have := has_go (b.toNat : Int) set [] (by simpa using h)
  have e : (set.any fun x => decide ((x.toNat : Int) = (b.toNat : Int))) = set.contains b := by
    rw [← List.any_beq]
    congr 1
    funext x
    rw [Bool.eq_iff_iff]
    simp only [decide_eq_true_eq, beq_iff_eq]
    constructor
    · intro h; exact (UInt8.toNat_inj.1 (by omega)).symm
    · intro h; rw [h]
  rw [e] at this
  simpa [spec_l1has.f] using this

/-! #### Token -/
def tokOdd : List UInt8 := [33, 35, 36, 37, 38, 39, 42, 43, 45, 46, 94, 95, 124, 126]
def tokB (b : UInt8) : Bool := lowB b || uppB b || digB b || decide (b.toNat = 96) || tokOdd.contains b
theorem indexByte_pos : ∀ (l : List UInt8) (c : UInt8), Lib.indexByte l c ≥ 0 ↔ l.contains c = true
  | [], c => by simp [Lib.indexByte]
  | b :: l, c => by
    have ih := indexByte_pos l c
    have lo : -1 ≤ Lib.indexByte l c := Lib.indexByte_ge l c
    unfold Lib.indexByte
    by_cases h : b = c
    · subst h; simp
    · have hb : (b == c) = false := by simpa using h
      have hc : (c == b) = false := by simpa using fun x => h x.symm
      rw [hb]
      simp only [Bool.false_eq_true, if_false, List.contains_cons, hc, Bool.false_or]
      rw [← ih]
      by_cases h2 : Lib.indexByte l c = -1
      · simp [h2]
      · have : (Lib.indexByte l c == -1) = false := by simpa using h2
        rw [this]; simp; omega
theorem isTokenByte_is (b : UInt8) : impl_isTokenByte.f (b.toNat : Int) = some (tokB b) := by
  have hi : (decide (Lib.indexByte tokOdd b ≥ 0)) = tokOdd.contains b := by
    rw [Bool.eq_iff_iff, decide_eq_true_iff]; exact indexByte_pos _ _
  have hx : strings_IndexByte.f (⟨#[33, 35, 36, 37, 38, 39, 42, 43, 45, 46, 94, 95, 124, 126]⟩ : ByteArray) (b.toNat : Int) = some (Lib.indexByte tokOdd b) := by
    unfold strings_IndexByte.f; rw [toUInt8_toNat]; rfl
  unfold impl_isTokenByte.f
  simp only [isLower_is, isUpper_is, isDigit_is, hx, Option.bind_some, hi]
  unfold tokB
  cases lowB b <;> cases uppB b <;> cases digB b <;> simp
  all_goals (by_cases h : b.toNat = 96 <;> simp [h])
  all_goals (try omega)
theorem tchar_is (b : UInt8) : Ev (fun k => spec_l1tchar.f k (b.toNat : Int)) (tokB b) := by
  have hb := u8_lt b
  have hh : Ev (fun k => spec_l1has.f k (⟨#[33, 35, 36, 37, 38, 39, 42, 43, 45, 46, 94, 95, 124, 126]⟩ : ByteArray) (b.toNat : Int)) (tokOdd.contains b) := has_is tokOdd b (by decide)
  have rest : Ev (fun k => if digB b = true then some true else if (b.toNat : Int) = 96 then some true else (spec_l1has.f k (⟨#[33, 35, 36, 37, 38, 39, 42, 43, 45, 46, 94, 95, 124, 126]⟩ : ByteArray) (b.toNat : Int)).bind fun t => some t) (digB b || decide (b.toNat = 96) || tokOdd.contains b) := by
    cases hd : digB b
    · by_cases h9 : b.toNat = 96
      · simpa [h9] using Ev.now true
      · have : ¬ (b.toNat : Int) = 96 := by omega
        simpa [h9, this] using hh.bind (f := fun _ (t : Bool) => some t) (Ev.now _)
    · simpa using Ev.now true
  unfold spec_l1tchar.f spec_l1lower.f
  simp only [l1digit_is]
  unfold tokB
  by_cases hU : 65 ≤ b.toNat ∧ b.toNat ≤ 90
  · have e1 : uppB b = true := by simp [uppB, hU]
    simp only [if_pos (show (b.toNat : Int) ≥ 65 by omega), if_pos (show (b.toNat : Int) ≤ 90 by omega), Option.bind_some, if_pos (show ((b.toNat : Int) + 32) % 256 ≥ 97 by omega), if_pos (show ((b.toNat : Int) + 32) % 256 ≤ 122 by omega)]
    simpa [e1] using Ev.now true
  · have e1 : uppB b = false := by simp [uppB]; omega
    have hlow : (if (b.toNat : Int) ≥ 65 then (if (b.toNat : Int) ≤ 90 then some (((b.toNat : Int) + 32) % 256) else some (b.toNat : Int)) else some (b.toNat : Int)) = some (b.toNat : Int) := by
      split
      · rw [if_neg (by omega)]
      · rfl
    rw [hlow]
    simp only [Option.bind_some]
    by_cases hL : 97 ≤ b.toNat
    · by_cases hL2 : b.toNat ≤ 122
      · have e2 : lowB b = true := by simp [lowB, hL, hL2]
        simp only [if_pos (show (b.toNat : Int) ≥ 97 by omega), if_pos (show (b.toNat : Int) ≤ 122 by omega)]
        simpa [e2] using Ev.now true
      · have e2 : lowB b = false := by simp [lowB, hL2]
        simp only [if_pos (show (b.toNat : Int) ≥ 97 by omega), if_neg (show ¬ (b.toNat : Int) ≤ 122 by omega)]
        simpa [e1, e2] using rest
    · have e2 : lowB b = false := by simp [lowB, hL]
      simp only [if_neg (show ¬ (b.toNat : Int) ≥ 97 by omega)]
      simpa [e1, e2] using rest
def tokenL (l : List UInt8) : Bool := decide (1 ≤ l.length) && decide (l.length ≤ 4000) && l.all tokB
theorem specToken_is (s : ByteArray) : Ev (fun k => spec_Token.f k s) (tokenL (bl s)) := by
  unfold spec_Token.f tokenL
  rw [size_bl]
  by_cases h0 : (s.size : Int) = 0
  · simp only [if_pos h0]
    refine Ev.step (f := fun _ => some false) (fun k => by simp [spec_Token.j0]) ?_
    simpa [show ¬ 1 ≤ s.size by omega] using Ev.now false
  · simp only [if_neg h0]
    by_cases h4 : (s.size : Int) > 4000
    · refine Ev.step (f := fun _ => some false) (fun k => by simp [spec_Token.j0, h4]) ?_
      simpa [show ¬ s.size ≤ 4000 by omega] using Ev.now false
    · refine Ev.step (f := fun k => spec_Token.l0 k s 0) (fun k => by simp [spec_Token.j0, h4]) ?_
      have := all_ev spec_Token.l0 spec_l1tchar.f tokB tchar_is (fun k s i => by simp only [spec_Token.l0]) s (by omega)
      simpa [show 1 ≤ s.size by omega, show s.size ≤ 4000 by omega] using this

/-! #### Within -/
theorem within_is (n a b : Int) : impl_within.f n a b = some (decide (a ≤ n) && decide (n ≤ b)) := by
  unfold impl_within.f
  by_cases h : a ≤ n <;> simp [h]

/-! #### FieldOk -/
theorem implToken_is (s : ByteArray) : Ev (fun k => impl_Token.f k s) (tokenL (bl s)) := by
  unfold impl_Token.f tokenL
  rw [size_bl]
  simp only [within_is, Option.bind_some]
  have e : (decide ((1 : Int) ≤ (s.size : Int)) && decide ((s.size : Int) ≤ 4000)) = (decide (1 ≤ s.size) && decide (s.size ≤ 4000)) := by rw [Bool.eq_iff_iff]; simp; omega
  rw [e]
  cases h : (decide (1 ≤ s.size) && decide (s.size ≤ 4000))
  · simpa using Ev.now false
  · have hs : s.size ≤ 9223372036854775806 := by simp at h; omega
    have := all_ev impl_all__impl_isTokenByte.l0 (fun _ c => impl_isTokenByte.f c) tokB (fun b => Ev.const (isTokenByte_is b)) (fun k s i => by simp only [impl_all__impl_isTokenByte.l0]) s hs
    simpa [impl_all__impl_isTokenByte.f] using this.bind (f := fun _ (t : Bool) => some t) (Ev.now _)
def fieldL (n v : List UInt8) : Bool := tokenL n && decide (n.length ≤ 40) && decide (v.length ≤ 190) && v.all plB && decide (trimB v = v)
theorem specL5plain_is (s : ByteArray) (hs : s.size ≤ 9223372036854775806) : Ev (fun k => spec_l5plain.f k s) ((bl s).all plB) := by
  have := all_ev spec_l5plain.l0 (fun _ c => spec_l1plain.f c) plB (fun b => Ev.const (specPlain_is b)) (fun k s i => by simp only [spec_l5plain.l0]) s hs
  simpa [spec_l5plain.f] using this
theorem implAllPlain_is (s : ByteArray) (hs : s.size ≤ 9223372036854775806) : Ev (fun k => impl_all__impl_isPlain.f k s) ((bl s).all plB) := by
  have := all_ev impl_all__impl_isPlain.l0 (fun _ c => impl_isPlain.f c) plB (fun b => Ev.const (implPlain_is b)) (fun k s i => by simp only [impl_all__impl_isPlain.l0]) s hs
  simpa [impl_all__impl_isPlain.f] using this
theorem trim_eq (v : ByteArray) : ((mkB (trimB (bl v))).toList == v.toList) = decide (trimB (bl v) = bl v) := by
  rw [toList_mk, toList_bl, Bool.eq_iff_iff]; simp
theorem specFieldOk_is (n v : ByteArray) : Ev (fun k => spec_FieldOk.f k n v) (fieldL (bl n) (bl v)) := by
  unfold spec_FieldOk.f fieldL
  rw [size_bl, size_bl]
  by_cases h1 : (n.size : Int) ≤ 40
  · simp only [if_pos h1]
    refine (specToken_is n).bind ?_
    cases ht : tokenL (bl n)
    · simpa using Ev.now false
    · by_cases h2 : (v.size : Int) ≤ 190
      · simp only [if_pos h2, if_true]
        refine (specL5plain_is v (by omega)).bind ?_
        cases hp : (bl v).all plB
        · simpa using Ev.now false
        · simp only [if_true]
          have := (specTrim_is v (by omega)).bind (f := fun _ (t : ByteArray) => some (t.toList == v.toList)) (Ev.now _)
          rw [trim_eq] at this
          simpa [show n.size ≤ 40 by omega, show v.size ≤ 190 by omega] using this
      · simp only [if_neg h2, if_true]
        simpa [show ¬ v.size ≤ 190 by omega] using Ev.now false
  · simp only [if_neg h1]
    simpa [show ¬ n.size ≤ 40 by omega] using Ev.now false
theorem implFieldOk_is (n v : ByteArray) : Ev (fun k => impl_FieldOk.f k n v) (fieldL (bl n) (bl v)) := by
  unfold impl_FieldOk.f fieldL
  rw [size_bl, size_bl]
  refine (implToken_is n).bind ?_
  cases ht : tokenL (bl n)
  · simpa using Ev.now false
  · by_cases h1 : (n.size : Int) ≤ 40
    · by_cases h2 : (v.size : Int) ≤ 190
      · simp only [if_pos h1, if_pos h2, if_true]
        refine (implAllPlain_is v (by omega)).bind ?_
        cases hp : (bl v).all plB
        · simpa using Ev.now false
        · simp only [if_true]
          have := (implTrim_is v (by omega)).bind (f := fun _ (t : ByteArray) => some (t.toList == v.toList)) (Ev.now _)
          rw [trim_eq] at this
          simpa [show n.size ≤ 40 by omega, show v.size ≤ 190 by omega] using this
      · simp only [if_pos h1, if_neg h2, if_true]
        simpa [show ¬ v.size ≤ 190 by omega] using Ev.now false
    · simp only [if_neg h1, if_true]
      simpa [show ¬ n.size ≤ 40 by omega] using Ev.now false

/-! #### Lists -/
/-- A loop that converts each element. -/
theorem toS_loop {α β : Type} (F : Nat → List α → List β → Int → Option (List β)) (z : α) (zb : β) (c : α → β)
    (hF : ∀ k l acc (i : Int), 0 ≤ i → i < (l.length : Int) → i < (acc.length : Int) → F (k + 1) l acc i = F k l (acc.set i.toNat (c (l.getD i.toNat z))) (wrap64 (i + 1)))
    (hE : ∀ k l acc, F (k + 1) l acc (l.length : Int) = some acc) :
    ∀ (r pre : List α) (acc : List β), acc.length = pre.length → (pre ++ r).length ≤ 1048576 → Ev (fun k => F k (pre ++ r) (acc ++ List.replicate r.length zb) pre.length) (acc ++ r.map c)
  | [], pre, acc, ha, _ => Ev.step (f := fun _ => some (acc ++ ([] : List α).map c)) (fun k => by simpa using hE k pre acc) (Ev.now _)
  | x :: r, pre, acc, ha, hl => by
    have ih := toS_loop F z zb c hF hE r (pre ++ [x]) (acc ++ [c x]) (by simp [ha]) (by rw [← app_mid]; exact hl)
    rw [← app_mid, len_snoc] at ih
    have e : acc ++ (x :: r).map c = (acc ++ [c x]) ++ r.map c := by simp
    rw [e]
    refine Ev.step (fun k => ?_) ih
    simp at hl
    rw [hF k _ _ _ (by omega) (len_mid ..) (by simp [ha]; omega), getD_mid, wrap_id (by omega) (by omega)]
    have e2 : (acc ++ List.replicate (x :: r).length zb).set ((pre.length : Int).toNat) (c x) = (acc ++ [c x]) ++ List.replicate r.length zb := by
      rw [show ((pre.length : Int).toNat) = acc.length by omega, List.length_cons, List.replicate_succ]
      simp
    rw [e2]
theorem toS_ev {α β : Type} (F : Nat → List α → List β → Int → Option (List β)) (z : α) (zb : β) (c : α → β)
    (hF : ∀ k l acc (i : Int), 0 ≤ i → i < (l.length : Int) → i < (acc.length : Int) → F (k + 1) l acc i = F k l (acc.set i.toNat (c (l.getD i.toNat z))) (wrap64 (i + 1)))
    (hE : ∀ k l acc, F (k + 1) l acc (l.length : Int) = some acc) (l : List α) (hl : l.length ≤ 1048576) : Ev (fun k => F k l (List.replicate l.length zb) 0) (l.map c) := by
  have := toS_loop F z zb c hF hE l [] [] rfl (by simpa using hl)
  simpa using this
/-- A loop that holds a list against itself. -/
theorem eqS_loop {β : Type} (F : Nat → List β → List β → Int → Option Bool) (hF : ∀ k l (i : Int), 0 ≤ i → i < (l.length : Int) → F (k + 1) l l i = F k l l (wrap64 (i + 1)))
    (hE : ∀ k l, F (k + 1) l l (l.length : Int) = some true) (L : List β) (hL : L.length ≤ 1048576) : ∀ (r pre : List β), pre ++ r = L → Ev (fun k => F k L L pre.length) true
  | [], pre, hp => by
    have e : pre = L := by simpa using hp
    exact Ev.step (f := fun _ => some true) (fun k => by rw [e]; exact hE k L) (Ev.now _)
  | x :: r, pre, hp => by
    have ih := eqS_loop F hF hE L hL r (pre ++ [x]) (by rw [← hp]; simp)
    rw [len_snoc] at ih
    have hlm := len_mid pre x r
    rw [hp] at hlm
    exact Ev.step (fun k => by rw [hF k L _ (by omega) hlm, wrap_id (by omega) (by omega)]) ih
theorem eqS_ev {β : Type} (F : Nat → List β → List β → Int → Option Bool) (hF : ∀ k l (i : Int), 0 ≤ i → i < (l.length : Int) → F (k + 1) l l i = F k l l (wrap64 (i + 1)))
    (hE : ∀ k l, F (k + 1) l l (l.length : Int) = some true) (l : List β) (hl : l.length ≤ 1048576) : Ev (fun k => F k l l 0) true := by
  simpa using eqS_loop F hF hE l hl l [] rfl
/-- A loop that asks each element. -/
theorem allS_loop {α : Type} (F : Nat → List α → Int → Option Bool) (G : Nat → α → Option Bool) (p : α → Bool) (z : α) (hG : ∀ x, Ev (fun k => G k x) (p x))
    (hF : ∀ k l (i : Int), 0 ≤ i → i < (l.length : Int) → F (k + 1) l i = (G k (l.getD i.toNat z)).bind fun t => if t = true then F k l (wrap64 (i + 1)) else some false)
    (hE : ∀ k l, F (k + 1) l (l.length : Int) = some true) : ∀ (r pre : List α), (pre ++ r).length ≤ 1048576 → Ev (fun k => F k (pre ++ r) pre.length) (r.all p)
  | [], pre, _ => Ev.step (f := fun _ => some true) (fun k => by simpa using hE k pre) (Ev.now _)
  | x :: r, pre, hl => by
    have ih := allS_loop F G p z hG hF hE r (pre ++ [x]) (by rw [← app_mid]; exact hl)
    rw [← app_mid, len_snoc] at ih
    simp at hl
    refine Ev.step (f := fun k => (G k x).bind fun t => if t = true then F k (pre ++ x :: r) (pre.length + 1) else some false) (fun k => ?_) ?_
    · rw [hF k _ _ (by omega) (len_mid ..), getD_mid, wrap_id (by omega) (by omega)]
    refine (hG x).bind ?_
    cases hp : p x
    · simpa [hp] using Ev.now false
    · simpa [hp] using ih
theorem allS_ev {α : Type} (F : Nat → List α → Int → Option Bool) (G : Nat → α → Option Bool) (p : α → Bool) (z : α) (hG : ∀ x, Ev (fun k => G k x) (p x))
    (hF : ∀ k l (i : Int), 0 ≤ i → i < (l.length : Int) → F (k + 1) l i = (G k (l.getD i.toNat z)).bind fun t => if t = true then F k l (wrap64 (i + 1)) else some false)
    (hE : ∀ k l, F (k + 1) l (l.length : Int) = some true) (l : List α) (hl : l.length ≤ 1048576) : Ev (fun k => F k l 0) (l.all p) := by
  simpa using allS_loop F G p z hG hF hE l [] (by simpa using hl)
/-- A loop that takes each element's weight off a number. -/
theorem szS_loop {α : Type} (F : Nat → List α → Int → Int → Option Int) (g : α → Int → Option Int) (wt : α → Nat) (okp : α → Prop) (z : α)
    (hg : ∀ x (n : Int), okp x → 0 ≤ n → n ≤ 1048576 → g x n = some (if n < wt x then -1 else n - wt x))
    (hF : ∀ k l n (i : Int), 0 ≤ i → i < (l.length : Int) → F (k + 1) l n i = (g (l.getD i.toNat z) n).bind fun t => if t < 0 then some (-1) else F k l t (wrap64 (i + 1)))
    (hE : ∀ k l n, F (k + 1) l n (l.length : Int) = some n) :
    ∀ (r pre : List α) (n : Int), (∀ x ∈ r, okp x) → (pre ++ r).length ≤ 1048576 → 0 ≤ n → n ≤ 1048576 →
    ∃ q, Ev (fun k => F k (pre ++ r) n pre.length) q ∧ q ≤ n ∧ (0 ≤ q → (((r.map wt).sum : Nat) : Int) ≤ n - q)
  | [], pre, n, _, _, h0, _ => ⟨n, Ev.step (f := fun _ => some n) (fun k => by simpa using hE k pre n) (Ev.now _), by omega, fun _ => by simp⟩
  | x :: r, pre, n, hb, hl, h0, h1 => by
    have hs := hg x n (hb x (by simp)) h0 h1
    by_cases hn : n < wt x
    · rw [if_pos hn] at hs
      refine ⟨-1, Ev.step (f := fun _ => some (-1)) (fun k => ?_) (Ev.now _), by omega, fun h => by omega⟩
      rw [hF k _ _ _ (by omega) (len_mid ..), getD_mid, hs]; simp
    · rw [if_neg hn] at hs
      obtain ⟨q, hq, hle, ht⟩ := szS_loop F g wt okp z hg hF hE r (pre ++ [x]) (n - wt x) (fun y hy => hb y (List.mem_cons_of_mem _ hy)) (by rw [← app_mid]; exact hl) (by omega) (by omega)
      rw [← app_mid, len_snoc] at hq
      refine ⟨q, Ev.step (fun k => ?_) hq, by omega, fun h => ?_⟩
      · simp at hl
        rw [hF k _ _ _ (by omega) (len_mid ..), getD_mid, hs]
        simp only [Option.bind_some]
        rw [if_neg (by omega), wrap_id (by omega) (by omega)]
      · have := ht h
        simp only [List.map_cons, List.sum_cons]
        omega
theorem szS_ev {α : Type} (F : Nat → List α → Int → Int → Option Int) (g : α → Int → Option Int) (wt : α → Nat) (okp : α → Prop) (z : α)
    (hg : ∀ x (n : Int), okp x → 0 ≤ n → n ≤ 1048576 → g x n = some (if n < wt x then -1 else n - wt x))
    (hF : ∀ k l n (i : Int), 0 ≤ i → i < (l.length : Int) → F (k + 1) l n i = (g (l.getD i.toNat z) n).bind fun t => if t < 0 then some (-1) else F k l t (wrap64 (i + 1)))
    (hE : ∀ k l n, F (k + 1) l n (l.length : Int) = some n) (l : List α) (n : Int) (hb : ∀ x ∈ l, okp x) (hl : l.length ≤ 9223372036854775807) (h0 : 0 ≤ n) (h1 : n ≤ 1048576) :
    ∃ q, Ev (fun k => if wrap64 (n - (l.length : Int)) < 0 then some (-1) else F k l (wrap64 (n - (l.length : Int))) 0) q ∧ q ≤ n ∧ (0 ≤ q → (l.length : Int) + (((l.map wt).sum : Nat) : Int) ≤ n - q) := by
  rw [wrap_id (by omega) (by omega)]
  by_cases h : n - (l.length : Int) < 0
  · refine ⟨-1, ?_, by omega, fun h => by omega⟩
    simp only [if_pos h]; exact Ev.now _
  · simp only [if_neg h]
    obtain ⟨q, hq, hle, ht⟩ := szS_loop F g wt okp z hg hF hE l [] (n - l.length) hb (by simp; omega) (by omega) (by omega)
    exact ⟨q, by simpa using hq, by omega, fun hh => by have := ht hh; omega⟩

/-! #### SzField -/
theorem szField_is (n v : ByteArray) (hn : n.size ≤ 9223372036854775807) (hv : v.size ≤ 9223372036854775807) (l : Int) (h0 : 0 ≤ l) (h1 : l ≤ 1048576) :
    laws_szField.f n v l = some (if l < n.size + v.size then -1 else l - n.size - v.size) := by
  unfold laws_szField.f
  rw [wrap_id (by omega) (by omega)]
  by_cases h : l - n.size < 0
  · rw [if_pos h, if_pos (by omega)]
  · rw [if_neg h, wrap_id (by omega) (by omega)]
    split <;> split <;> first | rfl | omega

/-! #### Fields -/
abbrev LFld := S40
abbrev IFld := S49
def cFld (x : LFld) : IFld := ⟨x.f0, x.f1⟩
def wFld (x : LFld) : Nat := x.f0.size + x.f1.size
theorem szFieldS_is (l : List LFld) (n : Int) (hb : ∀ x ∈ l, ok40 x) (hl : l.length ≤ 9223372036854775807) (h0 : 0 ≤ n) (h1 : n ≤ 1048576) :
    ∃ q, Ev (fun k => laws_szFieldS.f k l n) q ∧ q ≤ n ∧ (0 ≤ q → (l.length : Int) + (((l.map wFld).sum : Nat) : Int) ≤ n - q) := by
  refine szS_ev laws_szFieldS.l0 (fun x n => laws_szField.f x.f0 x.f1 n) wFld ok40 z40 ?_ ?_ ?_ l n hb hl h0 h1
  · intro x n hx h0 h1
    rw [szField_is _ _ hx.1 hx.2 n h0 h1]; congr 1
    have hw : (wFld x : Int) = (x.f0.size : Int) + (x.f1.size : Int) := by simp [wFld]
    by_cases hh : n < (x.f0.size : Int) + (x.f1.size : Int)
    · rw [if_pos hh, if_pos (by omega)]
    · rw [if_neg hh, if_neg (by omega)]; omega
  · intro k l n i h0 h1; simp only [laws_szFieldS.l0]; rw [if_pos h1, if_pos h0]; rfl
  · intro k l n; simp only [laws_szFieldS.l0]; rw [if_neg (by omega)]
theorem toFieldS_is (l : List LFld) (hl : l.length ≤ 1048576) : Ev (fun k => laws_toFieldS.f k l) (l.map cFld) := by
  unfold laws_toFieldS.f
  simp only [if_pos (show 0 ≤ (l.length : Int) by omega), if_pos (show (l.length : Int).toNat ≤ 8796093022208 by omega)]
  refine toS_ev laws_toFieldS.l0 z40 z49 cFld ?_ ?_ l hl
  · intro k l acc i h0 h1 h2
    simp only [laws_toFieldS.l0]
    rw [if_pos h1, if_pos h0]
    simp only [laws_toField.f, Option.bind_some]
    rw [if_pos h2]; rfl
  · intro k l acc; simp only [laws_toFieldS.l0]; rw [if_neg (by omega)]
theorem eqFieldS_is (l : List IFld) (hl : l.length ≤ 1048576) : Ev (fun k => laws_eqFieldS.f k l l) true := by
  unfold laws_eqFieldS.f
  simp only [if_true]
  refine eqS_ev laws_eqFieldS.l0 ?_ ?_ l hl
  · intro k l i h0 h1
    simp only [laws_eqFieldS.l0]
    rw [if_pos h1, if_pos h0, if_pos h1]
    simp [laws_eqField.f]
  · intro k l; simp only [laws_eqFieldS.l0]; rw [if_neg (by omega)]
def fldOk (x : IFld) : Bool := fieldL (bl x.f0) (bl x.f1)
def fldsOk (l : List IFld) : Bool := decide (l.length ≤ 20) && l.all fldOk
theorem specFieldsOk_is (l : List IFld) : Ev (fun k => spec_FieldsOk.f k l) (fldsOk l) := by
  unfold spec_FieldsOk.f fldsOk
  by_cases h : (l.length : Int) > 20
  · simp only [if_pos h]
    simpa [show ¬ l.length ≤ 20 by omega] using Ev.now false
  · simp only [if_neg h]
    have := allS_ev spec_FieldsOk.l0 (fun k x => spec_FieldOk.f k x.f0 x.f1) fldOk z49 (fun x => specFieldOk_is x.f0 x.f1)
      (fun k l i h0 h1 => by simp only [spec_FieldsOk.l0]; rw [if_pos h1, if_pos h0]; rfl) (fun k l => by simp only [spec_FieldsOk.l0]; rw [if_neg (by omega)]) l (by omega)
    simpa [show l.length ≤ 20 by omega] using this
theorem implFieldsOk_is (l : List IFld) : Ev (fun k => impl_FieldsOk.f k l) (fldsOk l) := by
  unfold impl_FieldsOk.f fldsOk
  by_cases h : (l.length : Int) > 20
  · simp only [if_pos h]
    simpa [show ¬ l.length ≤ 20 by omega] using Ev.now false
  · simp only [if_neg h]
    have := allS_ev (fun k l i => impl_FieldsOk.l0 k l (l.length : Int) i) (fun k x => impl_FieldOk.f k x.f0 x.f1) fldOk z49 (fun x => implFieldOk_is x.f0 x.f1)
      (fun k l i h0 h1 => by simp only [impl_FieldsOk.l0]; rw [if_pos h1, if_pos h0, if_pos h1]; rfl) (fun k l => by simp only [impl_FieldsOk.l0]; rw [if_neg (by omega)]) l (by omega)
    simpa [show l.length ≤ 20 by omega] using this

/-! #### ValuesI -/
/-- A loop that collects what is fit. -/
theorem filtS_go {α β : Type} (L : Nat → List α → List β → Int → Option (List β)) (p : α → Bool) (g : α → β) (ok : α → Prop) (z : α)
    (hstep : ∀ k l acc (i : Int), 0 ≤ i → i < (l.length : Int) → acc.length < 8796093022208 → ok (l.getD i.toNat z) → L (k + 1) l acc i = if p (l.getD i.toNat z) = true then L k l (acc ++ [g (l.getD i.toNat z)]) (wrap64 (i + 1)) else L k l acc (wrap64 (i + 1)))
    (hend : ∀ k l acc, L (k + 1) l acc (l.length : Int) = some acc) :
    ∀ (r pre : List α) (acc : List β), (∀ x ∈ r, ok x) → acc.length + r.length ≤ 1048576 → (pre ++ r).length ≤ 1048576 → Ev (fun k => L k (pre ++ r) acc pre.length) (acc ++ (r.filter p).map g)
  | [], pre, acc, _, _, _ => Ev.step (f := fun _ => some acc) (fun k => by simpa using hend k pre acc) (by simpa using Ev.now acc)
  | x :: r, pre, acc, ho, ha, hl => by
    have hx := ho x (by simp)
    simp only [List.length_cons] at ha
    have hw : wrap64 ((pre.length : Int) + 1) = (pre.length : Int) + 1 := by simp at hl; exact wrap_id (by omega) (by omega)
    have hs := fun k => hstep k (pre ++ x :: r) acc pre.length (by omega) (len_mid ..) (by omega) (by rw [getD_mid]; exact hx)
    simp only [getD_mid, hw] at hs
    by_cases hp : p x = true
    · have ih := filtS_go L p g ok z hstep hend r (pre ++ [x]) (acc ++ [g x]) (fun y hy => ho y (List.mem_cons_of_mem _ hy)) (by simp; omega) (by rw [← app_mid]; exact hl)
      rw [← app_mid, len_snoc] at ih
      rw [List.filter_cons_of_pos hp, List.map_cons, show acc ++ g x :: (r.filter p).map g = acc ++ [g x] ++ (r.filter p).map g by simp]
      exact Ev.step (fun k => by rw [hs, if_pos hp]) ih
    · have ih := filtS_go L p g ok z hstep hend r (pre ++ [x]) acc (fun y hy => ho y (List.mem_cons_of_mem _ hy)) (by omega) (by rw [← app_mid]; exact hl)
      rw [← app_mid, len_snoc] at ih
      rw [List.filter_cons_of_neg hp]
      exact Ev.step (fun k => by rw [hs, if_neg hp]) ih
def lowS (s : ByteArray) : ByteArray := strOfNums ((bytesOf s).map lowI)
def sameB (a b : ByteArray) : Bool := (lowS a).toList == (lowS b).toList
theorem specFold_is (s : ByteArray) (h : s.size ≤ 1099511627776) : spec_Fold.f s = some (lowS s) := by unfold spec_Fold.f; rw [if_pos h]; rfl
theorem implFold_is (s : ByteArray) (h : s.size ≤ 1099511627776) : impl_Fold.f s = some (lowS s) := by unfold impl_Fold.f; rw [if_pos h]; rfl
theorem implSame_is (a b : ByteArray) (ha : a.size ≤ 1099511627776) (hb : b.size ≤ 1099511627776) : impl_SameFold.f a b = some (sameB a b) := by
  unfold impl_SameFold.f; rw [implFold_is a ha, implFold_is b hb]; rfl
def valsF (l : List IFld) (n : ByteArray) : List ByteArray := (l.filter fun x => sameB x.f0 n).map (·.f1)
def vals (l : List IFld) (n : ByteArray) : List ByteArray := if fldsOk l = true then valsF l n else []
def smallF (x : IFld) : Prop := x.f0.size ≤ 1048576 ∧ x.f1.size ≤ 1048576
theorem implValues_is (l : List IFld) (n : ByteArray) (hl : l.length ≤ 1048576) (ho : ∀ x ∈ l, smallF x) (hn : n.size ≤ 1048576) : Ev (fun k => impl_Values.f k l n) (vals l n) := by
  unfold impl_Values.f vals
  refine (implFieldsOk_is l).bind ?_
  by_cases h : fldsOk l = true
  · simp only [if_pos h]
    have := filtS_go (fun k l acc i => impl_Values.l0 k n acc l (l.length : Int) i) (fun x => sameB x.f0 n) (·.f1) smallF z49
      (fun k l acc i h0 h1 h2 h3 => by simp only [impl_Values.l0]; rw [if_pos h1, if_pos h0, if_pos h1]; simp only [rd_T49]; rw [implSame_is _ _ (by have := h3.1; omega) (by omega)]; simp only [Option.bind_some, if_pos h2])
      (fun k l acc => by simp only [impl_Values.l0]; rw [if_neg (by omega)]) l [] [] ho (by simpa using hl) (by simpa using hl)
    simpa [valsF] using this
  · simp only [if_neg h]; exact Ev.now _
theorem le_sum_mem : ∀ (l : List Nat) (x : Nat), x ∈ l → x ≤ l.sum
  | a :: l, x, h => by
    simp only [List.sum_cons]
    rcases List.mem_cons.1 h with rfl | h
    · omega
    · have := le_sum_mem l x h; omega
theorem smallF_of (l : List LFld) (h : (((l.map wFld).sum : Nat) : Int) ≤ 1048576) : ∀ x ∈ l.map cFld, smallF x := by
  intro x hx
  obtain ⟨y, hy, rfl⟩ := List.mem_map.1 hx
  have : wFld y ≤ (l.map wFld).sum := le_sum_mem _ _ (List.mem_map_of_mem hy)
  simp only [wFld] at this
  exact ⟨by simp only [cFld]; omega, by simp only [cFld]; omega⟩

/-! #### Values -/
theorem specSame_is (a b : ByteArray) (ha : a.size ≤ 1099511627776) (hb : b.size ≤ 1099511627776) : spec_SameFold.f a b = some (sameB a b) := by
  unfold spec_SameFold.f; rw [specFold_is a ha, specFold_is b hb]; rfl
theorem specValues_is (l : List IFld) (n : ByteArray) (hl : l.length ≤ 1048576) (ho : ∀ x ∈ l, smallF x) (hn : n.size ≤ 1048576) : Ev (fun k => spec_Values.f k l n) (vals l n) := by
  unfold spec_Values.f vals
  refine (specFieldsOk_is l).bind ?_
  by_cases h : fldsOk l = true
  · simp only [if_pos h]
    have := filtS_go (fun k l acc i => spec_Values.l0 k l n acc i) (fun x => sameB x.f0 n) (·.f1) smallF z49
      (fun k l acc i h0 h1 h2 h3 => by simp only [spec_Values.l0]; rw [if_pos h1, if_pos h0]; simp only [rd_T49]; rw [specSame_is _ _ (by have := h3.1; omega) (by omega)]; simp only [Option.bind_some, if_pos h2])
      (fun k l acc => by simp only [spec_Values.l0]; rw [if_neg (by omega)]) l [] [] ho (by simpa using hl) (by simpa using hl)
    simpa [valsF] using this
  · simp only [if_neg h]; exact Ev.now _

/-! #### Joined -/
def totF (l : List IFld) : Nat := (l.map fun x => x.f0.size + x.f1.size).sum
theorem totF_conv (l : List LFld) : totF (l.map cFld) = (l.map wFld).sum := by simp [totF, wFld, cFld, Function.comp_def]; rfl
theorem smallF_tot (l : List IFld) (h : totF l ≤ 1048576) : ∀ x ∈ l, smallF x := by
  intro x hx
  have : x.f0.size + x.f1.size ≤ totF l := le_sum_mem _ _ (List.mem_map_of_mem (f := fun x : IFld => x.f0.size + x.f1.size) hx)
  exact ⟨by omega, by omega⟩
def totS (l : List ByteArray) : Nat := (l.map (·.size)).sum
theorem totS_vals (l : List IFld) (n : ByteArray) : totS (vals l n) ≤ totF l := by
  have : ∀ l : List IFld, totS (valsF l n) ≤ totF l := by
    intro l
    induction l with
    | nil => simp [totS, totF, valsF]
    | cons x r ih =>
      by_cases hp : sameB x.f0 n = true
      · simp [totS, totF, valsF, List.filter_cons, hp] at ih ⊢; omega
      · simp [totS, totF, valsF, List.filter_cons, hp] at ih ⊢; omega
  unfold vals
  split
  · exact this l
  · simp [totS]
theorem len_vals (l : List IFld) (n : ByteArray) : (vals l n).length ≤ 20 := by
  unfold vals
  split
  · rename_i h
    simp [fldsOk] at h
    have : (valsF l n).length ≤ l.length := by simpa [valsF] using List.length_filter_le _ l
    omega
  · simp
def commaB : List UInt8 := [44, 32]
def joined (v : List ByteArray) : ByteArray := mkB (Lib.join (v.map bl) commaB)
theorem bl_append (a b : ByteArray) : bl (a ++ b) = bl a ++ bl b := by simp [bl]
theorem bl_length (a : ByteArray) : (bl a).length = a.size := by simp [bl]
theorem specJoined_go : ∀ (r pre : List ByteArray) (acc : ByteArray), pre ≠ [] → (pre ++ r).length ≤ 1048576 → acc.size + totS r + 2 * r.length ≤ 1099511627776 →
    Ev (fun k => spec_Joined.l0 k (pre ++ r) acc pre.length) (mkB (bl acc ++ Lib.joinTail commaB (r.map bl)))
  | [], pre, acc, _, _, _ => Ev.step (f := fun _ => some acc) (fun k => by simp [spec_Joined.l0]) (by simpa [Lib.joinTail, mk_bl] using Ev.now acc)
  | x :: r, pre, acc, hp, hl, ht => by
    have htc : totS (x :: r) = x.size + totS r := by simp [totS]
    rw [htc, List.length_cons] at ht
    have hs1 : (acc ++ (⟨#[44, 32]⟩ : ByteArray)).size = acc.size + 2 := by rw [ByteArray.size_append]; rfl
    have hs2 : (acc ++ (⟨#[44, 32]⟩ : ByteArray) ++ x).size = acc.size + 2 + x.size := by rw [ByteArray.size_append, hs1]
    have ih := specJoined_go r (pre ++ [x]) (acc ++ (⟨#[44, 32]⟩ : ByteArray) ++ x) (by simp) (by rw [← app_mid]; exact hl) (by rw [hs2]; omega)
    rw [← app_mid, len_snoc] at ih
    have e : bl acc ++ Lib.joinTail commaB ((x :: r).map bl) = bl (acc ++ (⟨#[44, 32]⟩ : ByteArray) ++ x) ++ Lib.joinTail commaB (r.map bl) := by
      simp [Lib.joinTail, bl_append, commaB]; rfl
    rw [e]
    refine Ev.step (fun k => ?_) ih
    have h0 : 0 < pre.length := List.length_pos_iff.2 hp
    simp only [spec_Joined.l0]
    simp at hl
    rw [if_pos (len_mid ..), if_pos (by omega), if_pos (by omega), if_pos (by omega)]
    simp only [rdOf, getD_mid]
    rw [if_pos (by rw [hs1]; omega), wrap_id (by omega) (by omega)]
theorem specJoin_is (v : List ByteArray) (hl : v.length ≤ 1048576) (ht : totS v + 2 * v.length ≤ 1099511627776) : Ev (fun k => spec_Joined.l0 k v (⟨#[]⟩ : ByteArray) 0) (joined v) := by
  cases v with
  | nil => exact Ev.step (f := fun _ => some (⟨#[]⟩ : ByteArray)) (fun k => by simp [spec_Joined.l0]) (by simpa [joined, Lib.join_nil, mkB] using Ev.now (⟨#[]⟩ : ByteArray))
  | cons x r =>
    have htc : totS (x :: r) = x.size + totS r := by simp [totS]
    rw [htc, List.length_cons] at ht
    have hs : ((⟨#[]⟩ : ByteArray) ++ x).size = x.size := by rw [ByteArray.size_append, show (⟨#[]⟩ : ByteArray).size = 0 from rfl, Nat.zero_add]
    have ih := specJoined_go r [x] ((⟨#[]⟩ : ByteArray) ++ x) (by simp) (by simpa using hl) (by rw [hs]; omega)
    have e : joined (x :: r) = mkB (bl ((⟨#[]⟩ : ByteArray) ++ x) ++ Lib.joinTail commaB (r.map bl)) := by
      unfold joined; rw [List.map_cons, Lib.join_cons, bl_append]; rfl
    rw [e]
    refine Ev.step (fun k => ?_) ih
    simp only [spec_Joined.l0]
    have hrd : rdOf ByteArray.empty (x :: r) 0 = x := rfl
    have hz : (⟨#[]⟩ : ByteArray).size = 0 := rfl
    have hw : wrap64 (0 + 1) = (([x] : List ByteArray).length : Int) := by simp [wrap64]
    rw [if_pos (by rw [List.length_cons]; omega), if_neg (by omega), if_pos (by omega), hrd, if_pos (by rw [hz]; omega), hw]
    rfl
theorem specJoined_is (l : List IFld) (n : ByteArray) (hl : l.length ≤ 1048576) (ht : totF l ≤ 1048576) (hn : n.size ≤ 1048576) : Ev (fun k => spec_Joined.f k l n) (joined (vals l n)) := by
  have h1 := totS_vals l n
  have h2 := len_vals l n
  unfold spec_Joined.f
  exact (specValues_is l n hl (smallF_tot l ht) hn).bind (specJoin_is _ (by omega) (by omega))
theorem joinTail_len (v : List ByteArray) : (Lib.joinTail commaB (v.map bl)).length = totS v + 2 * v.length := by
  induction v with
  | nil => rfl
  | cons x r ih =>
    have h1 : Lib.joinTail commaB ((x :: r).map bl) = commaB ++ bl x ++ Lib.joinTail commaB (r.map bl) := by simp [Lib.joinTail]
    have h2 : totS (x :: r) = x.size + totS r := by simp [totS]
    rw [h1, h2, List.length_append, List.length_append, ih, bl_length, List.length_cons]
    simp [commaB]; omega
theorem join_len (v : List ByteArray) : (Lib.join (v.map bl) commaB).length ≤ totS v + 2 * v.length := by
  cases v with
  | nil => simp [Lib.join_nil]
  | cons x r =>
    have h2 : totS (x :: r) = x.size + totS r := by simp [totS]
    rw [List.map_cons, Lib.join_cons, List.length_append, joinTail_len, bl_length, h2, List.length_cons]; omega
theorem implJoined_is (l : List IFld) (n : ByteArray) (hl : l.length ≤ 1048576) (ht : totF l ≤ 1048576) (hn : n.size ≤ 1048576) : Ev (fun k => impl_Joined.f k l n) (joined (vals l n)) := by
  have h1 := totS_vals l n
  have h2 := len_vals l n
  have h3 := join_len (vals l n)
  unfold impl_Joined.f
  refine (implValues_is l n hl (smallF_tot l ht) hn).bind ?_
  have hx : strings_Join.f (vals l n) (⟨#[44, 32]⟩ : ByteArray) = some (joined (vals l n)) := by
    unfold strings_Join.f
    exact if_pos ⟨by omega, by show (Lib.join ((vals l n).map bl) commaB).length ≤ _; omega⟩
  rw [hx]
  exact Ev.now _

/-! #### Elems -/
/-- A list's pieces: cut at each comma outside of quotes. -/
def elL : Nat → Bool → List UInt8 → List UInt8 → List (List UInt8)
  | 0, _, mid, _ => [mid]
  | _ + 1, _, mid, [] => [mid]
  | n + 1, q, mid, b :: r => if b = 34 then elL n (!q) (mid ++ [b]) r else if q = true then (if b = 92 then (match r with | [] => [mid ++ [b]] | c :: r' => elL n true (mid ++ [b, c]) r') else elL n true (mid ++ [b]) r) else if b = 44 then mid :: elL n false [] r else elL n false (mid ++ [b]) r
theorem elL_cons (n : Nat) (q : Bool) (mid : List UInt8) (b : UInt8) (r : List UInt8) : elL (n + 1) q mid (b :: r) = if b = 34 then elL n (!q) (mid ++ [b]) r else if q = true then (if b = 92 then (match r with | [] => [mid ++ [b]] | c :: r' => elL n true (mid ++ [b, c]) r') else elL n true (mid ++ [b]) r) else if b = 44 then mid :: elL n false [] r else elL n false (mid ++ [b]) r := by cases r <;> rfl
/-- What stays of them without blanks around. -/
def keepT (l : List (List UInt8)) : List (List UInt8) := (l.map trimB).filter (fun x => !x.isEmpty)
theorem keepT_cons (x : List UInt8) (l : List (List UInt8)) : keepT (x :: l) = keepT [x] ++ keepT l := by
  unfold keepT
  simp only [List.map_cons, List.map_nil]
  rw [List.filter_cons, List.filter_cons]
  split <;> simp
theorem keepT_one (x : List UInt8) : keepT [x] = if trimB x = [] then [] else [trimB x] := by
  unfold keepT
  by_cases h : trimB x = []
  · simp [h]
  · simp [h]
theorem u8_34 (b : UInt8) : (b.toNat : Int) = 34 ↔ b = 34 := by rw [← UInt8.toNat_inj]; show _ ↔ b.toNat = 34; omega
theorem u8_92 (b : UInt8) : (b.toNat : Int) = 92 ↔ b = 92 := by rw [← UInt8.toNat_inj]; show _ ↔ b.toNat = 92; omega
theorem u8_44 (b : UInt8) : (b.toNat : Int) = 44 ↔ b = 44 := by rw [← UInt8.toNat_inj]; show _ ↔ b.toNat = 44; omega
theorem implAdd_is (out : List ByteArray) (x : List UInt8) (hx : x.length ≤ 1000000) (ho : out.length ≤ 1000000) : Ev (fun k => impl_Elements.add k out (mkB x)) (out ++ (keepT [x]).map mkB) := by
  unfold impl_Elements.add
  refine (implTrim_is (mkB x) (by rw [size_mk]; omega)).bind ?_
  rw [bl_mk, toList_mk, keepT_one]
  by_cases h : trimB x = []
  · simp only [if_pos h]; simpa using Ev.now out
  · simp only [if_neg h, if_pos (show out.length < 8796093022208 by omega)]; exact Ev.now _
theorem implElems_last (mid done : List UInt8) (out : List ByteArray) (q : Bool) (hl : (done ++ mid).length ≤ 100000) (ho : out.length ≤ done.length) :
    Ev (fun k => impl_Elements.l0 k (mkB (done ++ mid)) out (done.length : Int) q ((done.length : Int) + (mid.length : Int))) (out ++ (keepT [mid]).map mkB) := by
  rw [List.length_append] at hl
  have hs : (mkB (done ++ mid)).size = done.length + mid.length := by rw [size_mk, List.length_append]
  have hx : (mkB (done ++ mid)).extract (done.length : Int).toNat (mkB (done ++ mid)).size = mkB mid := by
    have := take_mid done mid []
    rw [List.append_nil] at this
    rw [extract_mk, Int.toNat_natCast, hs, this]
  refine Ev.step (fun k => ?_) (implAdd_is out mid (by omega) (by omega))
  rw [impl_Elements.l0, if_neg (by rw [hs]; omega), if_pos (by omega), if_pos (by rw [hs]; omega), hx]
theorem implElems_cell (k : Nat) (s : ByteArray) (out : List ByteArray) (fr : Int) (q : Bool) (i : Int) (b : UInt8) (hlt : i < (s.size : Int)) (h0 : 0 ≤ i) (hb : bt s i = (b.toNat : Int)) (hs : s.size ≤ 1000000) :
    impl_Elements.l0 (k + 1) s out fr q i = if b = 34 then impl_Elements.l0 k s out fr (!q) (i + 1) else if q = true then (if b = 92 then impl_Elements.l0 k s out fr true (i + 1 + 1) else impl_Elements.l0 k s out fr true (i + 1)) else if b = 44 then (if 0 ≤ fr then (if fr ≤ i then (impl_Elements.add k out (s.extract fr.toNat i.toNat)).bind fun o => impl_Elements.l0 k s o (i + 1) false (i + 1) else none) else none) else impl_Elements.l0 k s out fr false (i + 1) := by
  have hw : wrap64 (i + 1) = i + 1 := wrap_id (by omega) (by omega)
  have hw2 : wrap64 (i + 1 + 1) = i + 1 + 1 := wrap_id (by omega) (by omega)
  rw [impl_Elements.l0, if_pos hlt, if_pos h0, hb, hw, hw2]
  by_cases h34 : b = 34
  · rw [if_pos h34, if_pos ((u8_34 b).2 h34)]
  rw [if_neg h34, if_neg (fun h => h34 ((u8_34 b).1 h))]
  cases q
  · rw [if_neg Bool.false_ne_true, if_neg Bool.false_ne_true]
    by_cases h44 : b = 44
    · rw [if_pos h44, if_pos ((u8_44 b).2 h44)]
    · rw [if_neg h44, if_neg (fun h => h44 ((u8_44 b).1 h))]
  · rw [if_pos rfl, if_pos rfl]
    by_cases h92 : b = 92
    · rw [if_pos h92, if_pos ((u8_92 b).2 h92)]
    · rw [if_neg h92, if_neg (fun h => h92 ((u8_92 b).1 h))]
theorem implElems_go : ∀ (n : Nat) (r mid done : List UInt8) (out : List ByteArray) (q : Bool), r.length ≤ n → (done ++ (mid ++ r)).length ≤ 100000 → out.length ≤ done.length →
    Ev (fun k => impl_Elements.l0 k (mkB (done ++ (mid ++ r))) out (done.length : Int) q ((done.length : Int) + (mid.length : Int))) (out ++ (keepT (elL n q mid r)).map mkB) := by
  intro n
  induction n with
  | zero =>
    intro r mid done out q hr hl ho
    obtain rfl : r = [] := List.length_eq_zero_iff.1 (by omega)
    have := implElems_last mid done out q (by simpa using hl) ho
    simpa [elL] using this
  | succ n ih =>
    intro r mid done out q hr hl ho
    cases r with
    | nil =>
      have := implElems_last mid done out q (by simpa using hl) ho
      simpa [elL] using this
    | cons b r =>
      have hl2 := hl
      simp at hl2 hr
      have hlt : (done.length : Int) + (mid.length : Int) < ((mkB (done ++ (mid ++ b :: r))).size : Int) := by rw [size_mk]; simp; omega
      have hb := bt_mid2 done mid b r _ rfl
      have hz : (mkB (done ++ (mid ++ b :: r))).size ≤ 1000000 := by rw [size_mk]; omega
      have h0i : (0 : Int) ≤ (done.length : Int) + (mid.length : Int) := by omega
      have ih1 := fun q' => ih r (mid ++ [b]) done out q' (by omega) (by simp; omega) ho
      have e1 : done ++ (mid ++ [b] ++ r) = done ++ (mid ++ b :: r) := by simp
      have e2 : (done.length : Int) + ((mid ++ [b]).length : Int) = (done.length : Int) + (mid.length : Int) + 1 := by simp; omega
      simp only [e1, e2] at ih1
      by_cases h34 : b = 34
      · have e : elL (n + 1) q mid (b :: r) = elL n (!q) (mid ++ [b]) r := by rw [elL_cons, if_pos h34]
        rw [e]
        refine Ev.step (fun k => ?_) (ih1 (!q))
        rw [implElems_cell k _ out _ _ _ b hlt h0i hb hz, if_pos h34]
      · cases q with
        | true =>
          by_cases h92 : b = 92
          · cases r with
            | nil =>
              have e : elL (n + 1) true mid [b] = [mid ++ [b]] := by simp [elL, h34, h92]
              rw [e]
              have hx : (mkB (done ++ (mid ++ [b]))).extract (done.length : Int).toNat (mkB (done ++ (mid ++ [b]))).size = mkB (mid ++ [b]) := by
                have := take_mid done (mid ++ [b]) []
                rw [List.append_nil] at this
                rw [extract_mk, Int.toNat_natCast, size_mk, show (done ++ (mid ++ [b])).length = done.length + (mid ++ [b]).length by simp, this]
              refine Ev.step (f := fun k => impl_Elements.l0 k (mkB (done ++ (mid ++ [b]))) out (done.length : Int) true ((done.length : Int) + (mid.length : Int) + 1 + 1)) (fun k => ?_) ?_
              · rw [implElems_cell k _ out _ _ _ b hlt h0i hb hz, if_neg h34, if_pos rfl, if_pos h92]
              · refine Ev.step (fun k => ?_) (implAdd_is out (mid ++ [b]) (by simp; omega) (by omega))
                rw [impl_Elements.l0, if_neg (by rw [size_mk]; simp; omega), if_pos (by omega), if_pos (by rw [size_mk]; simp; omega), hx]
            | cons c r' =>
              simp at hl2 hr
              have e : elL (n + 1) true mid (b :: c :: r') = elL n true (mid ++ [b, c]) r' := by rw [elL_cons, if_neg h34, if_pos rfl, if_pos h92]
              rw [e]
              have ih2 := ih r' (mid ++ [b, c]) done out true (by omega) (by simp; omega) ho
              have e3 : done ++ (mid ++ [b, c] ++ r') = done ++ (mid ++ b :: c :: r') := by simp
              have e4 : (done.length : Int) + ((mid ++ [b, c]).length : Int) = (done.length : Int) + (mid.length : Int) + 1 + 1 := by simp; omega
              rw [e3, e4] at ih2
              refine Ev.step (fun k => ?_) ih2
              rw [implElems_cell k _ out _ _ _ b hlt h0i hb hz, if_neg h34, if_pos rfl, if_pos h92]
          · have e : elL (n + 1) true mid (b :: r) = elL n true (mid ++ [b]) r := by rw [elL_cons, if_neg h34, if_pos rfl, if_neg h92]
            rw [e]
            refine Ev.step (fun k => ?_) (ih1 true)
            rw [implElems_cell k _ out _ _ _ b hlt h0i hb hz, if_neg h34, if_pos rfl, if_neg h92]
        | false =>
          by_cases h44 : b = 44
          · have e : elL (n + 1) false mid (b :: r) = mid :: elL n false [] r := by rw [elL_cons, if_neg h34, if_neg Bool.false_ne_true, if_pos h44]
            have er : out ++ (keepT (mid :: elL n false [] r)).map mkB = (out ++ (keepT [mid]).map mkB) ++ (keepT (elL n false [] r)).map mkB := by rw [keepT_cons, List.map_append, List.append_assoc]
            rw [e, er]
            have hx : (mkB (done ++ (mid ++ b :: r))).extract (done.length : Int).toNat ((done.length : Int) + (mid.length : Int)).toNat = mkB mid := by
              rw [extract_mk, Int.toNat_natCast, show ((done.length : Int) + (mid.length : Int)).toNat = done.length + mid.length by omega, take_mid]
            have hk1 : (keepT [mid]).length ≤ 1 := by rw [keepT_one]; split <;> simp
            have ih2 := ih r [] (done ++ mid ++ [b]) (out ++ (keepT [mid]).map mkB) false (by omega) (by simp; omega) (by simp; omega)
            have e3 : (done ++ mid ++ [b]) ++ ([] ++ r) = done ++ (mid ++ b :: r) := by simp
            have e4 : ((done ++ mid ++ [b]).length : Int) = (done.length : Int) + (mid.length : Int) + 1 := by simp; omega
            rw [e3, e4] at ih2
            simp only [List.length_nil, Int.natCast_zero, Int.add_zero] at ih2
            refine Ev.step (f := fun k => (impl_Elements.add k out (mkB mid)).bind fun o => impl_Elements.l0 k (mkB (done ++ (mid ++ b :: r))) o ((done.length : Int) + (mid.length : Int) + 1) false ((done.length : Int) + (mid.length : Int) + 1)) (fun k => ?_) ?_
            · rw [implElems_cell k _ out _ _ _ b hlt h0i hb hz, if_neg h34, if_neg Bool.false_ne_true, if_pos h44, if_pos (by omega), if_pos (by omega), hx]
            · exact (implAdd_is out mid (by omega) (by omega)).bind ih2
          · have e : elL (n + 1) false mid (b :: r) = elL n false (mid ++ [b]) r := by rw [elL_cons, if_neg h34, if_neg Bool.false_ne_true, if_neg h44]
            rw [e]
            refine Ev.step (fun k => ?_) (ih1 false)
            rw [implElems_cell k _ out _ _ _ b hlt h0i hb hz, if_neg h34, if_neg Bool.false_ne_true, if_neg h44]
def elementsL (l : List UInt8) : List ByteArray := if l.length > 4000 then [] else (keepT (elL l.length false [] l)).map mkB
theorem implElements_is (s : ByteArray) : Ev (fun k => impl_Elements.f k s) (elementsL (bl s)) := by
  unfold impl_Elements.f elementsL
  rw [size_bl]
  by_cases h : s.size > 4000
  · simp only [if_pos (show (s.size : Int) > 4000 by omega), if_pos h]; exact Ev.now _
  · simp only [if_neg (show ¬ (s.size : Int) > 4000 by omega), if_neg h]
    have := implElems_go s.size (bl s) [] [] [] false (by rw [size_bl]; omega) (by simp [size_bl]; omega) (by simp)
    simpa [mk_bl] using this

/-! #### ElemsS -/
theorem specAdd_ev {γ : Type} (G : Nat → List ByteArray → Option γ) (out : List ByteArray) (x : List UInt8) (R : γ) (hx : x.length ≤ 1000000) (ho : out.length ≤ 1000000) (hG : Ev (fun k => G k (out ++ (keepT [x]).map mkB)) R) :
    Ev (fun k => (spec_Trim.f k (mkB x)).bind fun t => if (t.size : Int) > 0 then (if out.length < 8796093022208 then G k (out ++ [t]) else none) else G k out) R := by
  refine (specTrim_is (mkB x) (by rw [size_mk]; omega)).bind ?_
  rw [bl_mk, size_mk]
  rw [keepT_one] at hG
  by_cases h : trimB x = []
  · rw [if_pos h] at hG
    simp only [h, List.length_nil]
    simpa using hG
  · have hl : 1 ≤ (trimB x).length := List.length_pos_iff.2 h
    rw [if_neg h] at hG
    simp only [if_pos (show ((trimB x).length : Int) > 0 by omega), if_pos (show out.length < 8796093022208 by omega)]
    exact hG
theorem specElems_cell (k : Nat) (s : ByteArray) (out : List ByteArray) (fr : Int) (q : Bool) (i : Int) (b : UInt8) (hlt : i < (s.size : Int)) (h0 : 0 ≤ i) (hb : bt s i = (b.toNat : Int)) :
    spec_Elements.l0 (k + 1) s out fr q i = spec_Elements.j1 k s out fr q i (!q && decide (b = 44)) := by
  rw [spec_Elements.l0, if_pos (Int.le_of_lt hlt), if_neg (Int.ne_of_lt hlt)]
  cases q
  · rw [if_neg Bool.false_ne_true, if_pos h0, if_pos hlt, hb]
    congr 1
    rw [Bool.eq_iff_iff, beq_iff_eq, u8_44]; simp
  · rw [if_pos rfl]; rfl
theorem specElems_cell2 (k : Nat) (s : ByteArray) (out : List ByteArray) (fr : Int) (q : Bool) (i : Int) (b : UInt8) (hlt : i < (s.size : Int)) (h0 : 0 ≤ i) (hb : bt s i = (b.toNat : Int)) (hs : s.size ≤ 1000000) :
    spec_Elements.j1 (k + 1) s out fr q i false = if b = 34 then spec_Elements.l0 k s out fr (!q) (i + 1) else if q = true then (if b = 92 then (if i + 1 < (s.size : Int) then spec_Elements.l0 k s out fr q (i + 1 + 1) else spec_Elements.l0 k s out fr q (i + 1)) else spec_Elements.l0 k s out fr q (i + 1)) else spec_Elements.l0 k s out fr q (i + 1) := by
  have hw : wrap64 (i + 1) = i + 1 := wrap_id (by omega) (by omega)
  have hw2 : wrap64 (i + 1 + 1) = i + 1 + 1 := wrap_id (by omega) (by omega)
  rw [spec_Elements.j1, if_neg Bool.false_ne_true, if_pos h0, if_pos hlt, hb, hw, hw2]
  by_cases h34 : b = 34
  · rw [if_pos h34, if_pos ((u8_34 b).2 h34)]
  rw [if_neg h34, if_neg (fun h => h34 ((u8_34 b).1 h))]
  cases q
  · rw [if_neg Bool.false_ne_true, if_neg Bool.false_ne_true]
  · rw [if_pos rfl, if_pos rfl]
    by_cases h92 : b = 92
    · rw [if_pos h92, if_pos ((u8_92 b).2 h92)]
    · rw [if_neg h92, if_neg (fun h => h92 ((u8_92 b).1 h))]
theorem specElems_cell3 (k : Nat) (s : ByteArray) (out : List ByteArray) (fr : Int) (q : Bool) (i : Int) (x : ByteArray) (h0 : 0 ≤ fr) (h1 : fr ≤ i) (h2 : i ≤ (s.size : Int)) (hx : s.extract fr.toNat i.toNat = x) (hs : s.size ≤ 1000000) :
    spec_Elements.j1 (k + 1) s out fr q i true = (spec_Trim.f k x).bind fun t => if (t.size : Int) > 0 then (if out.length < 8796093022208 then spec_Elements.l0 k s (out ++ [t]) (i + 1) q (i + 1) else none) else spec_Elements.l0 k s out (i + 1) q (i + 1) := by
  have hw : wrap64 (i + 1) = i + 1 := wrap_id (by omega) (by omega)
  rw [spec_Elements.j1, if_pos rfl, if_pos h0, if_pos h1, if_pos h2, hx, hw]
theorem specElems_last (mid done : List UInt8) (out : List ByteArray) (q : Bool) (hl : (done ++ mid).length ≤ 100000) (ho : out.length ≤ done.length) :
    Ev (fun k => spec_Elements.l0 k (mkB (done ++ mid)) out (done.length : Int) q ((done.length : Int) + (mid.length : Int))) (out ++ (keepT [mid]).map mkB) := by
  simp at hl
  have hs : ((mkB (done ++ mid)).size : Int) = (done.length : Int) + (mid.length : Int) := by rw [size_mk]; simp
  have hx : (mkB (done ++ mid)).extract (done.length : Int).toNat ((done.length : Int) + (mid.length : Int)).toNat = mkB mid := by
    have := take_mid done mid []
    rw [List.append_nil] at this
    rw [extract_mk, Int.toNat_natCast, show ((done.length : Int) + (mid.length : Int)).toNat = done.length + mid.length by omega, this]
  have hw : wrap64 ((done.length : Int) + (mid.length : Int) + 1) = (done.length : Int) + (mid.length : Int) + 1 := wrap_id (by omega) (by omega)
  have hend : ∀ o : List ByteArray, Ev (fun k => spec_Elements.l0 k (mkB (done ++ mid)) o ((done.length : Int) + (mid.length : Int) + 1) q ((done.length : Int) + (mid.length : Int) + 1)) o := fun o =>
    Ev.step (f := fun _ => some o) (fun k => by rw [spec_Elements.l0, hs, if_neg (by omega)]) (Ev.now _)
  refine Ev.step (f := fun k => spec_Elements.j1 k (mkB (done ++ mid)) out (done.length : Int) q ((done.length : Int) + (mid.length : Int)) true) (fun k => by rw [spec_Elements.l0, hs, if_pos (by omega), if_pos rfl]) ?_
  refine Ev.step (fun k => specElems_cell3 k _ out _ q _ _ (by omega) (by omega) (by rw [hs]; omega) hx (by rw [size_mk, List.length_append]; omega)) (specAdd_ev (fun k o => spec_Elements.l0 k (mkB (done ++ mid)) o ((done.length : Int) + (mid.length : Int) + 1) q ((done.length : Int) + (mid.length : Int) + 1)) out mid _ (by omega) (by omega) (hend _))
theorem specElems_go : ∀ (n : Nat) (r mid done : List UInt8) (out : List ByteArray) (q : Bool), r.length ≤ n → (done ++ (mid ++ r)).length ≤ 100000 → out.length ≤ done.length →
    Ev (fun k => spec_Elements.l0 k (mkB (done ++ (mid ++ r))) out (done.length : Int) q ((done.length : Int) + (mid.length : Int))) (out ++ (keepT (elL n q mid r)).map mkB) := by
  intro n
  induction n with
  | zero =>
    intro r mid done out q hr hl ho
    obtain rfl : r = [] := List.length_eq_zero_iff.1 (by omega)
    have := specElems_last mid done out q (by simpa using hl) ho
    simpa [elL] using this
  | succ n ih =>
    intro r mid done out q hr hl ho
    cases r with
    | nil =>
      have := specElems_last mid done out q (by simpa using hl) ho
      simpa [elL] using this
    | cons b r =>
      have hl2 := hl
      simp at hl2 hr
      have hs : ((mkB (done ++ (mid ++ b :: r))).size : Int) = (done.length : Int) + (mid.length : Int) + 1 + r.length := by rw [size_mk]; simp; omega
      have hb := bt_mid2 done mid b r _ rfl
      have hz : (mkB (done ++ (mid ++ b :: r))).size ≤ 1000000 := by rw [size_mk]; omega
      have h0i : (0 : Int) ≤ (done.length : Int) + (mid.length : Int) := by omega
      have hlt : (done.length : Int) + (mid.length : Int) < ((mkB (done ++ (mid ++ b :: r))).size : Int) := by rw [size_mk]; simp; omega
      have g1 : (done.length : Int) + (mid.length : Int) ≤ (done.length : Int) + (mid.length : Int) + 1 + r.length := by omega
      have g2 : ¬ (done.length : Int) + (mid.length : Int) = (done.length : Int) + (mid.length : Int) + 1 + r.length := by omega
      have g3 : (0 : Int) ≤ (done.length : Int) + (mid.length : Int) := by omega
      have g4 : (done.length : Int) + (mid.length : Int) < (done.length : Int) + (mid.length : Int) + 1 + r.length := by omega
      have ih1 := fun q' => ih r (mid ++ [b]) done out q' (by omega) (by simp; omega) ho
      have e1 : done ++ (mid ++ [b] ++ r) = done ++ (mid ++ b :: r) := by simp
      have e2 : (done.length : Int) + ((mid ++ [b]).length : Int) = (done.length : Int) + (mid.length : Int) + 1 := by simp; omega
      simp only [e1, e2] at ih1
      refine Ev.step (fun k => specElems_cell k _ out _ q _ b hlt h0i hb) ?_
      by_cases h34 : b = 34
      · have e : elL (n + 1) q mid (b :: r) = elL n (!q) (mid ++ [b]) r := by rw [elL_cons, if_pos h34]
        have h44 : (!q && decide (b = 44)) = false := by rw [h34]; cases q <;> rfl
        rw [e, h44]
        refine Ev.step (fun k => ?_) (ih1 (!q))
        rw [specElems_cell2 k _ out _ _ _ b hlt h0i hb hz, if_pos h34]
      · cases q with
        | true =>
          simp only [Bool.not_true, Bool.false_and]
          by_cases h92 : b = 92
          · cases r with
            | nil =>
              have e : elL (n + 1) true mid [b] = [mid ++ [b]] := by simp [elL, h34, h92]
              rw [e]
              have hlast := specElems_last (mid ++ [b]) done out true (by simpa using hl) ho
              rw [e2] at hlast
              refine Ev.step (fun k => ?_) hlast
              rw [specElems_cell2 k _ out _ _ _ b hlt h0i hb hz, if_neg h34, if_pos rfl, if_pos h92, if_neg (by rw [hs]; simp)]
            | cons c r' =>
              simp at hl2 hr
              have e : elL (n + 1) true mid (b :: c :: r') = elL n true (mid ++ [b, c]) r' := by rw [elL_cons, if_neg h34, if_pos rfl, if_pos h92]
              rw [e]
              have ih2 := ih r' (mid ++ [b, c]) done out true (by omega) (by simp; omega) ho
              have e3 : done ++ (mid ++ [b, c] ++ r') = done ++ (mid ++ b :: c :: r') := by simp
              have e4 : (done.length : Int) + ((mid ++ [b, c]).length : Int) = (done.length : Int) + (mid.length : Int) + 1 + 1 := by simp; omega
              rw [e3, e4] at ih2
              refine Ev.step (fun k => ?_) ih2
              rw [specElems_cell2 k _ out _ _ _ b hlt h0i hb hz, if_neg h34, if_pos rfl, if_pos h92, if_pos (by rw [hs]; simp; omega)]
          · have e : elL (n + 1) true mid (b :: r) = elL n true (mid ++ [b]) r := by rw [elL_cons, if_neg h34, if_pos rfl, if_neg h92]
            rw [e]
            refine Ev.step (fun k => ?_) (ih1 true)
            rw [specElems_cell2 k _ out _ _ _ b hlt h0i hb hz, if_neg h34, if_pos rfl, if_neg h92]
        | false =>
          simp only [Bool.not_false, Bool.true_and]
          by_cases h44 : b = 44
          · have e : elL (n + 1) false mid (b :: r) = mid :: elL n false [] r := by rw [elL_cons, if_neg h34, if_neg Bool.false_ne_true, if_pos h44]
            have er : out ++ (keepT (mid :: elL n false [] r)).map mkB = (out ++ (keepT [mid]).map mkB) ++ (keepT (elL n false [] r)).map mkB := by rw [keepT_cons, List.map_append, List.append_assoc]
            rw [e, er]
            have hx : (mkB (done ++ (mid ++ b :: r))).extract (done.length : Int).toNat ((done.length : Int) + (mid.length : Int)).toNat = mkB mid := by
              rw [extract_mk, Int.toNat_natCast, show ((done.length : Int) + (mid.length : Int)).toNat = done.length + mid.length by omega, take_mid]
            have hk1 : (keepT [mid]).length ≤ 1 := by rw [keepT_one]; split <;> simp
            have ih2 := ih r [] (done ++ mid ++ [b]) (out ++ (keepT [mid]).map mkB) false (by omega) (by simp; omega) (by simp; omega)
            have e3 : (done ++ mid ++ [b]) ++ ([] ++ r) = done ++ (mid ++ b :: r) := by simp
            have e4 : ((done ++ mid ++ [b]).length : Int) = (done.length : Int) + (mid.length : Int) + 1 := by simp; omega
            rw [e3, e4] at ih2
            simp only [List.length_nil, Int.natCast_zero, Int.add_zero] at ih2
            rw [decide_eq_true h44]
            refine Ev.step (fun k => specElems_cell3 k _ out _ false _ _ (by omega) (by omega) (by rw [hs]; omega) hx hz) (specAdd_ev (fun k o => spec_Elements.l0 k (mkB (done ++ (mid ++ b :: r))) o ((done.length : Int) + (mid.length : Int) + 1) false ((done.length : Int) + (mid.length : Int) + 1)) out mid _ (by omega) (by omega) ih2)
          · have e : elL (n + 1) false mid (b :: r) = elL n false (mid ++ [b]) r := by rw [elL_cons, if_neg h34, if_neg Bool.false_ne_true, if_neg h44]
            rw [e, decide_eq_false h44]
            refine Ev.step (fun k => ?_) (ih1 false)
            rw [specElems_cell2 k _ out _ _ _ b hlt h0i hb hz, if_neg h34, if_neg Bool.false_ne_true]
theorem specElements_is (s : ByteArray) : Ev (fun k => spec_Elements.f k s) (elementsL (bl s)) := by
  unfold spec_Elements.f elementsL
  rw [size_bl]
  by_cases h : s.size > 4000
  · simp only [if_pos (show (s.size : Int) > 4000 by omega), if_pos h]; exact Ev.now _
  · simp only [if_neg (show ¬ (s.size : Int) > 4000 by omega), if_neg h]
    have := specElems_go s.size (bl s) [] [] [] false (by rw [size_bl]; omega) (by simp [size_bl]; omega) (by simp)
    simpa [mk_bl] using this

/-! #### Words -/
def wordsL (l : List IFld) (n : ByteArray) : List ByteArray := elementsL (bl (joined (vals l n)))
theorem specWords_is (l : List IFld) (n : ByteArray) (hl : l.length ≤ 1048576) (ht : totF l ≤ 1048576) (hn : n.size ≤ 1048576) : Ev (fun k => spec_Words.f k l n) (wordsL l n) := by
  unfold spec_Words.f
  refine (specJoined_is l n hl ht hn).bind ?_
  refine (specElements_is _).bind ?_
  exact Ev.now _
theorem implWords_is (l : List IFld) (n : ByteArray) (hl : l.length ≤ 1048576) (ht : totF l ≤ 1048576) (hn : n.size ≤ 1048576) : Ev (fun k => impl_Words.f k l n) (wordsL l n) := by
  unfold impl_Words.f
  refine (implJoined_is l n hl ht hn).bind ?_
  refine (implElements_is _).bind ?_
  exact Ev.now _
theorem trimB_len (x : List UInt8) : (trimB x).length ≤ x.length := by
  have h1 : ∀ l : List UInt8, (l.dropWhile wh).length ≤ l.length := fun l => (List.dropWhile_sublist _).length_le
  unfold trimB
  rw [List.length_reverse]
  refine Nat.le_trans (h1 _) ?_
  rw [List.length_reverse]
  exact h1 x
theorem elL_len : ∀ (n : Nat) (q : Bool) (mid r : List UInt8), (elL n q mid r).length ≤ r.length + 1 ∧ ∀ x ∈ elL n q mid r, x.length ≤ mid.length + r.length
  | 0, q, mid, r => by simp [elL]
  | n + 1, q, mid, [] => by simp [elL]
  | n + 1, q, mid, b :: r => by
    have ih := fun q' => elL_len n q' (mid ++ [b]) r
    simp only [List.length_append, List.length_singleton] at ih
    have same : ∀ q', (elL n q' (mid ++ [b]) r).length ≤ (b :: r).length + 1 ∧ ∀ x ∈ elL n q' (mid ++ [b]) r, x.length ≤ mid.length + (b :: r).length := fun q' => by
      have := ih q'
      refine ⟨by simp; omega, fun x hx => ?_⟩
      have := this.2 x hx
      simp; omega
    unfold elL
    by_cases h34 : b = 34
    · rw [if_pos h34]; exact same _
    rw [if_neg h34]
    by_cases hq : q = true
    · rw [if_pos hq]
      by_cases h92 : b = 92
      · rw [if_pos h92]
        cases r with
        | nil => simp
        | cons c r' =>
          have := elL_len n true (mid ++ [b, c]) r'
          simp only [List.length_append, List.length_cons, List.length_nil] at this
          refine ⟨by simp; omega, fun x hx => ?_⟩
          have := this.2 x hx
          simp; omega
      · rw [if_neg h92]; exact same _
    · rw [if_neg hq]
      by_cases h44 : b = 44
      · rw [if_pos h44]
        have := elL_len n false [] r
        refine ⟨by simp; omega, fun x hx => ?_⟩
        rcases List.mem_cons.1 hx with rfl | hx
        · simp
        · have := this.2 x hx; simp at this ⊢; omega
      · rw [if_neg h44]; exact same _
theorem elementsL_bnd (l : List UInt8) : (elementsL l).length ≤ 4001 ∧ ∀ x ∈ elementsL l, x.size ≤ 4000 := by
  unfold elementsL
  by_cases h : l.length > 4000
  · rw [if_pos h]; simp
  · rw [if_neg h]
    have hb := elL_len l.length false [] l
    refine ⟨?_, fun x hx => ?_⟩
    · rw [List.length_map]
      refine Nat.le_trans (List.length_filter_le _ _) ?_
      rw [List.length_map]; omega
    · obtain ⟨y, hy, rfl⟩ := List.mem_map.1 hx
      obtain ⟨z, hz, rfl⟩ := List.mem_map.1 (List.mem_filter.1 hy).1
      rw [size_mk]
      have := hb.2 z hz
      have := trimB_len z
      simp at *; omega

/-! #### Dec -/
theorem strOf_append (a b : List Int) : strOfNums (a ++ b) = strOfNums a ++ strOfNums b := by
  cases h : strOfNums (a ++ b) with | mk d =>
  cases h2 : strOfNums a ++ strOfNums b with | mk d2 =>
  congr 1
  have h3 : (strOfNums (a ++ b)).data.toList = (strOfNums a ++ strOfNums b).data.toList := by simp [strOfNums]
  rw [h, h2] at h3
  exact Array.toList_inj.1 h3
theorem strOf_digit (n : Nat) (h : n < 10) : strOfNums [(wrap64 (48 + (n : Int))) % 256] = mkB [UInt8.ofNat (48 + n)] := by
  have e : (wrap64 (48 + (n : Int))) % 256 = ((48 + n : Nat) : Int) := by rw [wrap_id (by omega) (by omega)]; omega
  rw [e]
  show (⟨(([((48 + n : Nat) : Int)] : List Int).map fun n => UInt8.ofNat n.toNat).toArray⟩ : ByteArray) = _
  rw [List.map_cons, List.map_nil, Int.toNat_natCast]
  rfl
theorem mk_append (a b : List UInt8) : mkB a ++ mkB b = mkB (a ++ b) := by
  cases h : mkB a ++ mkB b with | mk d =>
  have h3 : (mkB a ++ mkB b).data.toList = a ++ b := by simp [mkB]
  rw [h] at h3
  simp only [mkB, ByteArray.mk.injEq]
  apply Array.toList_inj.1
  rw [h3]
theorem nDigits_le15 (n : Nat) (h : n ≤ 999999999999999) : Lib.nDigits n ≤ 15 := by
  by_cases h1 : Lib.nDigits n ≤ 15
  · exact h1
  · have hk : ∀ k u : Nat, u < 10 ^ (k + 1) → Lib.nDigits u ≤ k + 1 := by
      intro k
      induction k with
      | zero => intro u hu; rw [Lib.nDigits_small (by simpa using hu)]; omega
      | succ k ih =>
        intro u hu
        by_cases h10 : u < 10
        · rw [Lib.nDigits_small h10]; omega
        · rw [Lib.nDigits_big h10]
          have := ih (u / 10) (by rw [Nat.pow_succ] at hu; omega)
          omega
    exact hk 14 n (by omega)
theorem specDec_is (n : Nat) (h : n ≤ 999999999999999) : Ev (fun k => spec_DecText.f k (n : Int)) (mkB (Lib.decDigits n)) := by
  induction n using Nat.strongRecOn with
  | _ n ih =>
    have hd : decide ((n : Int) > 999999999999999) = false := decide_eq_false (by omega)
    refine Ev.step (f := fun k => spec_DecText.j0 k (n : Int) false) (fun k => by simp only [spec_DecText.f]; rw [if_neg (by omega), hd]) ?_
    by_cases h10 : n < 10
    · refine Ev.step (f := fun _ => some (mkB (Lib.decDigits n))) (fun k => ?_) (Ev.now _)
      simp only [spec_DecText.j0, Bool.false_eq_true, if_false]
      rw [if_pos (by omega), strOf_digit n h10, Lib.decDigits, dif_pos h10]
    · have ih' := ih (n / 10) (by omega) (by omega)
      have hlen : (mkB (Lib.decDigits (n / 10))).size ≤ 15 := by rw [size_mk, Lib.decDigits_length]; exact nDigits_le15 _ (by omega)
      have e1 : wrap64 (Int.tdiv (n : Int) 10) = ((n / 10 : Nat) : Int) := by
        rw [Int.tdiv_eq_ediv_of_nonneg (by omega), wrap_id (by omega) (by omega)]; rfl
      have e2 : Int.tmod (n : Int) 10 = ((n % 10 : Nat) : Int) := by rw [Int.tmod_eq_emod_of_nonneg (by omega)]; rfl
      refine Ev.step (f := fun k => (spec_DecText.f k ((n / 10 : Nat) : Int)).bind fun t => if t.size + (mkB [UInt8.ofNat (48 + n % 10)]).size ≤ 9223372036854775807 then some (t ++ mkB [UInt8.ofNat (48 + n % 10)]) else none) (fun k => ?_) ?_
      · simp only [spec_DecText.j0, Bool.false_eq_true, if_false]
        rw [if_neg (by omega), e1, e2]
        simp only [Option.bind_some, strOf_digit (n % 10) (show n % 10 < 10 by omega)]
      · refine ih'.bind ?_
        have hs : (mkB [UInt8.ofNat (48 + n % 10)]).size = 1 := by rw [size_mk]; rfl
        have hdd : Lib.decDigits n = Lib.decDigits (n / 10) ++ [UInt8.ofNat (48 + n % 10)] := by rw [Lib.decDigits, dif_neg h10]
        rw [if_pos (by omega), mk_append, hdd]
        exact Ev.now _
theorem itoa_is (n : Nat) (h : n ≤ 999999999999999) : strconv_Itoa.f (n : Int) = some (mkB (Lib.decDigits n)) := by
  unfold strconv_Itoa.f
  rw [if_pos ⟨by omega, by omega⟩]
  unfold Lib.itoa
  rw [if_neg (by omega)]
  rfl

/-! #### ReadDec -/
def isDig (c : UInt8) : Bool := decide (48 ≤ c.toNat) && decide (c.toNat ≤ 57)
def dvalF (acc : Nat) (l : List UInt8) : Nat := l.foldl (fun a c => a * 10 + (c.toNat - 48)) acc
def dval (l : List UInt8) : Nat := dvalF 0 l
theorem dvalF_append (acc : Nat) (l m : List UInt8) : dvalF acc (l ++ m) = dvalF (dvalF acc l) m := by simp [dvalF]
theorem digit_toNat (d : Nat) (h : d < 10) : (UInt8.ofNat (48 + d)).toNat = 48 + d := by simp; omega
theorem dval_dec (n : Nat) : dval (Lib.decDigits n) = n ∧ (Lib.decDigits n).all isDig = true ∧ Lib.decDigits n ≠ [] := by
  induction n using Nat.strongRecOn with
  | _ n ih =>
    by_cases h : n < 10
    · rw [Lib.decDigits, dif_pos h]
      refine ⟨?_, ?_, by simp⟩
      · simp only [dval, dvalF, List.foldl_cons, List.foldl_nil, digit_toNat n h]; omega
      · simp only [List.all_cons, List.all_nil, isDig, digit_toNat n h]; simp; omega
    · obtain ⟨h1, h2, h3⟩ := ih (n / 10) (by omega)
      rw [Lib.decDigits, dif_neg h]
      refine ⟨?_, ?_, by simp⟩
      · rw [dval, dvalF_append, ← dval, h1]
        simp only [dvalF, List.foldl_cons, List.foldl_nil, digit_toNat (n % 10) (by omega)]; omega
      · rw [List.all_append, h2]
        simp only [List.all_cons, List.all_nil, isDig, digit_toNat (n % 10) (show n % 10 < 10 by omega)]; simp; omega
theorem dvalF_lt : ∀ (l : List UInt8) (acc m : Nat), l.all isDig = true → acc < 10 ^ m → dvalF acc l < 10 ^ (m + l.length)
  | [], acc, m, _, h => by simpa [dvalF] using h
  | c :: r, acc, m, ha, h => by
    simp only [List.all_cons, Bool.and_eq_true, isDig, decide_eq_true_eq] at ha
    have := dvalF_lt r (acc * 10 + (c.toNat - 48)) (m + 1) ha.2 (by rw [Nat.pow_succ]; omega)
    rw [List.length_cons, show m + (r.length + 1) = m + 1 + r.length by omega]
    exact this
theorem dval_lt15 (l : List UInt8) (hd : l.all isDig = true) (hl : l.length ≤ 15) : dval l ≤ 999999999999999 := by
  have h1 := dvalF_lt l 0 0 hd (by decide)
  have h2 : 10 ^ (0 + l.length) ≤ 10 ^ 15 := Nat.pow_le_pow_right (by decide) (by omega)
  have h3 : (10 : Nat) ^ 15 = 1000000000000000 := by decide
  unfold dval
  omega
/-- The number of a text, if it is written just so. -/
def rdec (l : List UInt8) : Int × Bool := if Lib.decDigits (dval l) = l ∧ l.length ≤ 15 then ((dval l : Int), true) else (0, false)
theorem rdec_dec (n : Nat) (h : n ≤ 999999999999999) : rdec (Lib.decDigits n) = ((n : Int), true) := by
  unfold rdec
  rw [(dval_dec n).1, if_pos ⟨rfl, by rw [Lib.decDigits_length]; exact nDigits_le15 n h⟩]
theorem l1digit_dig (c : UInt8) : spec_l1digit.f (c.toNat : Int) = some (isDig c) := by
  have : c.toNat < 256 := c.toNat_lt
  unfold spec_l1digit.f isDig
  by_cases h1 : 48 ≤ c.toNat
  · rw [if_pos (by omega), decide_eq_true h1, Bool.true_and]; congr 1; exact decide_eq_decide.2 (by omega)
  · rw [if_neg (by omega), decide_eq_false h1, Bool.false_and]
theorem specReadDec_go : ∀ (r pre : List UInt8) (acc : Nat), acc < 10 ^ pre.length → (pre ++ r).length ≤ 15 → r.all isDig = true →
    Ev (fun k => spec_ReadDec.l0 k (mkB (pre ++ r)) (acc : Int) pre.length) (if Lib.decDigits (dvalF acc r) = pre ++ r then ((dvalF acc r : Int), true) else (0, false))
  | [], pre, acc, ha, hl, _ => by
    have h15 : (10 : Nat) ^ pre.length ≤ 10 ^ 15 := Nat.pow_le_pow_right (by decide) (by simpa using hl)
    have h3 : (10 : Nat) ^ 15 = 1000000000000000 := by decide
    have hd := (specDec_is acc (by omega)).bind (f := fun _ (t : ByteArray) => if t.toList = (mkB (pre ++ [])).toList then some ((acc : Int), true) else some ((0 : Int), false)) (r := if Lib.decDigits acc = pre ++ [] then ((acc : Int), true) else ((0 : Int), false)) (by
      simp only [toList_mk]
      split <;> exact Ev.now _)
    refine Ev.step (fun k => ?_) hd
    simp only [spec_ReadDec.l0]
    rw [if_neg (by rw [size_mk]; simp)]
  | c :: r, pre, acc, ha, hl, hd => by
    simp only [List.all_cons, Bool.and_eq_true] at hd
    have hc : 48 ≤ c.toNat ∧ c.toNat ≤ 57 := by have := hd.1; simpa [isDig] using this
    have hl' : pre.length < 15 := by simp at hl; omega
    have h15 : (10 : Nat) ^ pre.length ≤ 10 ^ 14 := Nat.pow_le_pow_right (by decide) (by omega)
    have h3 : (10 : Nat) ^ 14 = 100000000000000 := by decide
    have ih := specReadDec_go r (pre ++ [c]) (acc * 10 + (c.toNat - 48)) (by rw [List.length_append, List.length_singleton, Nat.pow_succ]; omega) (by rw [← app_mid]; exact hl) hd.2
    rw [← app_mid, len_snoc] at ih
    have e : dvalF acc (c :: r) = dvalF (acc * 10 + (c.toNat - 48)) r := rfl
    rw [e]
    refine Ev.step (fun k => ?_) ih
    simp only [spec_ReadDec.l0]
    rw [if_pos (size_lt_mid ..), if_pos (by omega), bt_mid, l1digit_dig, hd.1]
    simp only [Option.bind_some, if_true]
    rw [wrap_id (a := (acc : Int) * 10) (by omega) (by omega), wrap_id (by omega) (by omega), wrap_id (a := (pre.length : Int) + 1) (by omega) (by omega)]
    congr 1
    omega
theorem specReadDec_bad : ∀ (r pre : List UInt8) (acc : Int), (pre ++ r).length ≤ 15 → r.all isDig = false → Ev (fun k => spec_ReadDec.l0 k (mkB (pre ++ r)) acc pre.length) ((0 : Int), false)
  | [], pre, acc, _, hd => by simp at hd
  | c :: r, pre, acc, hl, hd => by
    have hw : wrap64 ((pre.length : Int) + 1) = (pre.length : Int) + 1 := by simp at hl; exact wrap_id (by omega) (by omega)
    by_cases hc : isDig c = true
    · have ih := fun acc' => specReadDec_bad r (pre ++ [c]) acc' (by rw [← app_mid]; exact hl) (by simpa [hc] using hd)
      simp only [← app_mid, len_snoc] at ih
      refine Ev.step (fun k => ?_) (ih (wrap64 ((wrap64 (acc * 10)) + (((c.toNat : Int) - 48) % 256))))
      simp only [spec_ReadDec.l0]
      rw [if_pos (size_lt_mid ..), if_pos (by omega), bt_mid, l1digit_dig, hc, hw]
      simp only [Option.bind_some, if_true]
    · refine Ev.step (f := fun _ => some ((0 : Int), false)) (fun k => ?_) (Ev.now _)
      simp only [spec_ReadDec.l0]
      rw [if_pos (size_lt_mid ..), if_pos (by omega), bt_mid, l1digit_dig]
      simp only [Option.bind_some, if_neg hc]
theorem specReadDec_is (l : List UInt8) (hl : l.length ≤ 1099511627776) : Ev (fun k => spec_ReadDec.f k (mkB l)) (rdec l) := by
  have hj : Ev (fun k => spec_ReadDec.j0 k (mkB l) true) ((0 : Int), false) := Ev.step (f := fun _ => some ((0 : Int), false)) (fun k => by simp [spec_ReadDec.j0]) (Ev.now _)
  unfold spec_ReadDec.f
  by_cases h0 : l = []
  · have : rdec l = (0, false) := by unfold rdec; rw [if_neg (by rintro ⟨h, _⟩; subst h0; exact (dval_dec _).2.2 h)]
    have hz : ((mkB l).size : Int) = 0 := by rw [size_mk, h0]; rfl
    rw [this]
    simp only [if_pos hz]; exact hj
  · have h1 : 1 ≤ l.length := List.length_pos_iff.2 h0
    have hz : ¬ ((mkB l).size : Int) = 0 := by rw [size_mk]; omega
    simp only [if_neg hz]
    by_cases h15 : l.length ≤ 15
    · have e : decide (((mkB l).size : Int) > 15) = false := decide_eq_false (by rw [size_mk]; omega)
      rw [e]
      refine Ev.step (f := fun k => spec_ReadDec.l0 k (mkB l) 0 0) (fun k => by simp [spec_ReadDec.j0]) ?_
      by_cases hd : l.all isDig = true
      · have := specReadDec_go l [] 0 (by decide) (by simpa using h15) hd
        have e2 : rdec l = if Lib.decDigits (dvalF 0 l) = [] ++ l then ((dvalF 0 l : Int), true) else (0, false) := by
          unfold rdec dval
          simp only [List.nil_append]
          by_cases hh : Lib.decDigits (dvalF 0 l) = l
          · rw [if_pos ⟨hh, h15⟩, if_pos hh]
          · rw [if_neg (fun q => hh q.1), if_neg hh]
        rw [e2]; exact this
      · have e2 : rdec l = (0, false) := by
          unfold rdec
          rw [if_neg]
          rintro ⟨hh, _⟩
          exact hd (by have := (dval_dec (dval l)).2.1; rwa [hh] at this)
        rw [e2]
        exact specReadDec_bad l [] 0 (by simpa using h15) (by simpa using hd)
    · have e : decide (((mkB l).size : Int) > 15) = true := decide_eq_true (by rw [size_mk]; omega)
      have e2 : rdec l = (0, false) := by unfold rdec; rw [if_neg (fun q => h15 q.2)]
      rw [e, e2]; exact hj
theorem parse_digits : ∀ (l : List UInt8) (acc m : Nat), l.all isDig = true → acc < 10 ^ m → m + l.length ≤ 15 → Lib.parseUint10 acc l = .ok (dvalF acc l)
  | [], acc, m, _, _, _ => rfl
  | c :: r, acc, m, hd, ha, hm => by
    simp only [List.all_cons, Bool.and_eq_true] at hd
    have hc : 48 ≤ c.toNat ∧ c.toNat ≤ 57 := by have := hd.1; simpa [isDig] using this
    simp only [List.length_cons] at hm
    have h15 : (10 : Nat) ^ m ≤ 10 ^ 14 := Nat.pow_le_pow_right (by decide) (by omega)
    have h3 : (10 : Nat) ^ 14 = 100000000000000 := by decide
    rw [Lib.parseUint10, if_pos hc, if_neg (by omega), if_neg (by omega), parse_digits r _ (m + 1) hd.2 (by rw [Nat.pow_succ]; omega) (by omega)]
    rfl
theorem implReadDec_ok (l : List UInt8) : impl_ReadDec.ok l = rdec l := by
  unfold impl_ReadDec.ok
  by_cases h : Lib.decDigits (dval l) = l ∧ l.length ≤ 15
  · obtain ⟨h1, h2⟩ := h
    have hall : l.all isDig = true := by have := (dval_dec (dval l)).2.1; rwa [h1] at this
    have hne : l ≠ [] := by have := (dval_dec (dval l)).2.2; rwa [h1] at this
    have hlt := dval_lt15 l hall h2
    have hp : Lib.parseMag l = .ok (dval l) := by
      unfold Lib.parseMag
      rw [if_neg hne, parse_digits l 0 0 hall (by decide) (by omega)]; rfl
    have hat : Lib.atoiAll l = .ok (dval l : Int) := by
      cases l with
      | nil => exact absurd rfl hne
      | cons c r =>
        have hc : 48 ≤ c.toNat ∧ c.toNat ≤ 57 := by
          simp only [List.all_cons, Bool.and_eq_true] at hall
          have := hall.1; simpa [isDig] using this
        unfold Lib.atoiAll
        simp only [if_neg (show ¬ (c.toNat = 43 ∨ c.toNat = 45) by omega), hp]
        rw [if_neg (by omega), if_neg (by omega), if_neg (by omega)]
    rw [hat, rdec, if_pos ⟨h1, h2⟩]
    simp only []
    rw [if_pos ⟨by omega, by omega, by unfold Lib.itoa; rw [if_neg (by omega), Int.toNat_natCast]; exact h1⟩]
  · have hr : rdec l = (0, false) := by unfold rdec; rw [if_neg h]
    rw [hr]
    cases hA : Lib.atoiAll l with
    | «syntax» => rfl
    | range => rfl
    | ok v =>
      simp only []
      rw [if_neg]
      rintro ⟨h0, h1, h2⟩
      obtain ⟨n, rfl⟩ : ∃ n : Nat, v = n := ⟨v.toNat, by omega⟩
      have h3 : Lib.decDigits n = l := by rw [← h2]; unfold Lib.itoa; rw [if_neg (by omega), Int.toNat_natCast]
      have h4 : dval l = n := by rw [← h3]; exact (dval_dec n).1
      exact h ⟨by rw [h4, h3], by rw [← h3, Lib.decDigits_length]; exact nDigits_le15 n (by omega)⟩
theorem implReadDec_is (l : List UInt8) (hl : l.length ≤ 1099511627776) : impl_ReadDec.f (mkB l) = some (rdec l) := by
  unfold impl_ReadDec.f
  rw [if_pos (by rw [size_mk]; exact hl), ← implReadDec_ok]
  rfl

/-! #### Framing -/
def nCL : ByteArray := ⟨#[99, 111, 110, 116, 101, 110, 116, 45, 108, 101, 110, 103, 116, 104]⟩
def nTE : ByteArray := ⟨#[116, 114, 97, 110, 115, 102, 101, 114, 45, 101, 110, 99, 111, 100, 105, 110, 103]⟩
def hasL (l : List IFld) (n : ByteArray) : Bool := decide ((vals l n).length > 0)
/-- The number that all words are, if they are. -/
def lensL : List ByteArray → Option Int → Option Int
  | [], n => n
  | w :: r, none => if (rdec (bl w)).2 = true then lensL r (some (rdec (bl w)).1) else none
  | w :: r, some n => if (rdec (bl w)).2 = true ∧ (rdec (bl w)).1 = n then lensL r (some n) else none
def lenL (w : List ByteArray) : Option Int := lensL w none
def kindL (te cl answer bare : Bool) (n : Int) : Int × Int := if bare = true then (0, 0) else if te = true then (2, 0) else if cl = true then (1, n) else if answer = true then (3, 0) else (0, 0)
def framingL (l : List IFld) (answer bare : Bool) : Int × Int :=
  if fldsOk l = true then
    (if hasL l nTE = true ∧ (hasL l nCL = true ∨ ¬ (wordsL l nTE).length = 1 ∨ ¬ (lowS (rdOf ByteArray.empty (wordsL l nTE) 0)).toList = [99, 104, 117, 110, 107, 101, 100]) then (4, 0)
      else if hasL l nCL = true then (match lenL (wordsL l nCL) with | some n => kindL (hasL l nTE) true answer bare n | none => (4, 0)) else kindL (hasL l nTE) false answer bare 0)
  else (4, 0)
theorem rdec_pos (l : List UInt8) : 0 ≤ (rdec l).1 := by unfold rdec; split <;> simp
theorem specLen_go (a1 a2 x9 x11 : Bool) (W : List ByteArray) (hW : W.length ≤ 100000) (hs : ∀ x ∈ W, x.size ≤ 100000) : ∀ (r pre : List ByteArray) (m : Option Int), W = pre ++ r → (m = none ↔ pre = []) → (∀ n, m = some n → 0 ≤ n) →
    Ev (fun k => spec_Framing.l0 k a1 a2 x9 x11 (m.getD 0) W (pre.length : Int)) (match (if r = [] then m.orElse (fun _ => some 0) else lensL r m) with | some n => kindL x9 x11 a1 a2 n | none => (4, 0))
  | [], pre, m, hp, hm, hn => by
    have hj : Ev (fun k => spec_Framing.j2 k a1 a2 x9 x11 (m.getD 0)) (kindL x9 x11 a1 a2 (m.getD 0)) := by
      refine Ev.step (f := fun _ => some (kindL x9 x11 a1 a2 (m.getD 0))) (fun k => ?_) (Ev.now _)
      simp only [spec_Framing.j2, kindL]
      cases a2 <;> cases x9 <;> cases x11 <;> cases a1 <;> rfl
    refine Ev.step (f := fun k => spec_Framing.j2 k a1 a2 x9 x11 (m.getD 0)) (fun k => by simp only [spec_Framing.l0]; rw [if_neg (by rw [hp]; simp)]) ?_
    cases m <;> simpa using hj
  | w :: r, pre, m, hp, hm, hn => by
    have hlen : W.length = pre.length + (r.length + 1) := by rw [hp]; simp
    have hrd : rdOf ByteArray.empty W (pre.length : Int) = w := by rw [rdOf, hp, getD_mid]
    have hws : w.size ≤ 100000 := hs w (by rw [hp]; simp)
    have hrp := rdec_pos (bl w)
    have hcell : ∀ k, spec_Framing.l0 (k + 1) a1 a2 x9 x11 (m.getD 0) W (pre.length : Int) = (spec_ReadDec.f k w).bind fun b => (if b.2 = true then (if (pre.length : Int) > 0 then (if b.1 = m.getD 0 then (spec_Framing.l0 k a1 a2 x9 x11 b.1 W ((pre.length : Int) + 1)) else (some (4, 0))) else (spec_Framing.l0 k a1 a2 x9 x11 b.1 W ((pre.length : Int) + 1))) else (some (4, 0))) := by
      intro k
      simp only [spec_Framing.l0]
      rw [if_pos (by omega), if_pos (by omega), hrd, wrap_id (by omega) (by omega)]
    refine Ev.step hcell ?_
    have hrec := specReadDec_is (bl w) (by rw [size_bl]; omega)
    rw [mk_bl] at hrec
    refine hrec.bind ?_
    have ih := specLen_go a1 a2 x9 x11 W hW hs r (pre ++ [w]) (some (rdec (bl w)).1) (by rw [hp]; simp) (by simp) (by intro n h; injection h with h; omega)
    rw [len_snoc] at ih
    simp only [Option.getD_some] at ih
    have hres : (if r = [] then (some (rdec (bl w)).1).orElse (fun _ => some 0) else lensL r (some (rdec (bl w)).1)) = lensL r (some (rdec (bl w)).1) := by
      by_cases hr : r = []
      · subst hr; rfl
      · rw [if_neg hr]
    rw [hres] at ih
    rw [if_neg (by simp)]
    cases m with
    | none =>
      have hp0 : pre = [] := hm.1 rfl
      subst hp0
      cases ho : (rdec (bl w)).2
      · simp only [Bool.false_eq_true, if_false, lensL, ho]; exact Ev.now _
      · simp only [if_true, lensL, ho]
        simpa using ih
    | some n =>
      have hp0 : 1 ≤ pre.length := by
        cases pre with
        | nil => exact absurd (hm.2 rfl) (by simp)
        | cons _ _ => simp
      cases ho : (rdec (bl w)).2
      · simp only [Bool.false_eq_true, if_false, lensL, ho, false_and]; exact Ev.now _
      · simp only [if_true, if_pos (show (pre.length : Int) > 0 by omega), Option.getD_some, lensL, ho, true_and]
        by_cases he : (rdec (bl w)).1 = n
        · simp only [if_pos he]
          rw [he] at ih ⊢
          exact ih
        · simp only [if_neg he]; exact Ev.now _
theorem implLen_go (W : List ByteArray) (hW : W.length ≤ 100000) (hs : ∀ x ∈ W, x.size ≤ 100000) : ∀ (r pre : List ByteArray) (m : Option Int), W = pre ++ r → (∀ n, m = some n → 0 ≤ n) →
    Ev (fun k => impl_lengthOf.l0 k (m.getD (-1)) W (W.length : Int) (pre.length : Int)) (match lensL r m with | some n => (n, true) | none => if r = [] then ((-1 : Int), false) else ((0 : Int), false))
  | [], pre, m, hp, hn => by
    refine Ev.step (f := fun _ => some (m.getD (-1), decide (m.getD (-1) ≥ 0))) (fun k => by simp only [impl_lengthOf.l0]; rw [if_neg (by rw [hp]; simp)]) ?_
    cases m with
    | none => simpa [lensL] using Ev.now ((-1 : Int), false)
    | some n => have := hn n rfl; simpa [lensL, this] using Ev.now (n, true)
  | w :: r, pre, m, hp, hn => by
    have hlen : W.length = pre.length + (r.length + 1) := by rw [hp]; simp
    have hrd : rdOf ByteArray.empty W (pre.length : Int) = w := by rw [rdOf, hp, getD_mid]
    have hws : w.size ≤ 100000 := hs w (by rw [hp]; simp)
    have hrp := rdec_pos (bl w)
    have hrec := implReadDec_is (bl w) (by rw [size_bl]; omega)
    rw [mk_bl] at hrec
    have hcell : ∀ k, impl_lengthOf.l0 (k + 1) (m.getD (-1)) W (W.length : Int) (pre.length : Int) = if (rdec (bl w)).2 = true then (if m.getD (-1) ≥ 0 then (if (rdec (bl w)).1 = m.getD (-1) then impl_lengthOf.l0 k (rdec (bl w)).1 W (W.length : Int) ((pre.length : Int) + 1) else some (0, false)) else impl_lengthOf.l0 k (rdec (bl w)).1 W (W.length : Int) ((pre.length : Int) + 1)) else some (0, false) := by
      intro k
      simp only [impl_lengthOf.l0]
      rw [if_pos (by omega), if_pos (by omega), if_pos (by omega), hrd, hrec, Option.bind_some, wrap_id (by omega) (by omega)]
    have ih := implLen_go W hW hs r (pre ++ [w]) (some (rdec (bl w)).1) (by rw [hp]; simp) (by intro n h; injection h with h; omega)
    rw [len_snoc] at ih
    simp only [Option.getD_some] at ih
    have hsome : ∀ (r : List ByteArray) (n : Int), (match lensL r (some n) with | some n => (n, true) | none => if r = [] then ((-1 : Int), false) else ((0 : Int), false)) = (match lensL r (some n) with | some n => (n, true) | none => ((0 : Int), false)) := by
      intro r n
      cases r with
      | nil => rfl
      | cons _ _ => rfl
    rw [hsome] at ih
    rw [if_neg (by simp)]
    cases ho : (rdec (bl w)).2
    · have e : lensL (w :: r) m = none := by cases m <;> simp [lensL, ho]
      rw [e]
      exact Ev.step (f := fun _ => some (0, false)) (fun k => by rw [hcell, ho, if_neg Bool.false_ne_true]) (Ev.now _)
    · cases m with
      | none =>
        have e : lensL (w :: r) none = lensL r (some (rdec (bl w)).1) := by simp [lensL, ho]
        rw [e]
        exact Ev.step (fun k => by rw [hcell, ho, if_pos rfl, if_neg (by decide)]) ih
      | some n =>
        have hn0 := hn n rfl
        by_cases he : (rdec (bl w)).1 = n
        · have e : lensL (w :: r) (some n) = lensL r (some n) := by simp [lensL, ho, he]
          rw [e]
          rw [he] at ih
          exact Ev.step (fun k => by rw [hcell, ho, if_pos rfl, if_pos (by simpa using hn0), if_pos (by simpa using he), he]) ih
        · have e : lensL (w :: r) (some n) = none := by simp [lensL, he]
          rw [e]
          exact Ev.step (f := fun _ => some (0, false)) (fun k => by rw [hcell, ho, if_pos rfl, if_pos (by simpa using hn0), if_neg (by simpa using he)]) (Ev.now _)
theorem specHas_is (l : List IFld) (n : ByteArray) (hl : l.length ≤ 1048576) (ho : ∀ x ∈ l, smallF x) (hn : n.size ≤ 1048576) : ∃ v, Ev (fun k => spec_Get.f k l n) (v, hasL l n) := by
  by_cases h : ((vals l n).length : Int) = 0
  · refine ⟨(⟨#[]⟩ : ByteArray), ?_⟩
    have e : hasL l n = false := by unfold hasL; exact decide_eq_false (by omega)
    rw [e]
    unfold spec_Get.f
    refine (specValues_is l n hl ho hn).bind ?_
    simp only [if_pos h]; exact Ev.now _
  · refine ⟨rdOf ByteArray.empty (vals l n) 0, ?_⟩
    have e : hasL l n = true := by unfold hasL; exact decide_eq_true (by omega)
    rw [e]
    unfold spec_Get.f
    refine (specValues_is l n hl ho hn).bind ?_
    simp only [if_neg h, if_pos (show 0 < ((vals l n).length : Int) by omega)]; exact Ev.now _
theorem implHas_is (l : List IFld) (n : ByteArray) (hl : l.length ≤ 1048576) (ho : ∀ x ∈ l, smallF x) (hn : n.size ≤ 1048576) : Ev (fun k => impl_hasField.f k l n) (hasL l n) := by
  unfold impl_hasField.f
  refine (implValues_is l n hl ho hn).bind ?_
  have e : decide (((vals l n).length : Int) > 0) = hasL l n := by unfold hasL; exact decide_eq_decide.2 (by omega)
  rw [e]; exact Ev.now _
theorem nTE_is : (⟨#[116, 114, 97, 110, 115, 102, 101, 114, 45, 101, 110, 99, 111, 100, 105, 110, 103]⟩ : ByteArray) = nTE := rfl
theorem nCL_is : (⟨#[99, 111, 110, 116, 101, 110, 116, 45, 108, 101, 110, 103, 116, 104]⟩ : ByteArray) = nCL := rfl
theorem nTE_sz : nTE.size ≤ 1048576 := by decide
theorem nCL_sz : nCL.size ≤ 1048576 := by decide
theorem wordsL_bnd (l : List IFld) (n : ByteArray) : (wordsL l n).length ≤ 4001 ∧ ∀ x ∈ wordsL l n, x.size ≤ 4000 := elementsL_bnd _
theorem specFraming_is (l : List IFld) (a1 a2 : Bool) (hl : l.length ≤ 1048576) (ht : totF l ≤ 1048576) : Ev (fun k => spec_Framing.f k l a1 a2) (framingL l a1 a2) := by
  have ho := smallF_tot l ht
  unfold spec_Framing.f framingL
  refine (specFieldsOk_is l).bind ?_
  by_cases hok : fldsOk l = true
  · simp only [if_pos hok, nTE_is, nCL_is]
    obtain ⟨v1, h1⟩ := specHas_is l nTE hl ho nTE_sz
    obtain ⟨v2, h2⟩ := specHas_is l nCL hl ho nCL_sz
    refine h1.bind ?_
    refine h2.bind ?_
    dsimp only
    have hb1 := wordsL_bnd l nTE
    have hb2 := wordsL_bnd l nCL
    have tail : Ev (fun k => spec_Framing.j0 k l a1 a2 (hasL l nTE) (hasL l nCL)) (if hasL l nCL = true then (match lenL (wordsL l nCL) with | some n => kindL (hasL l nTE) true a1 a2 n | none => (4, 0)) else kindL (hasL l nTE) false a1 a2 0) := by
      cases hc : hasL l nCL
      · refine Ev.step (f := fun k => spec_Framing.j2 k a1 a2 (hasL l nTE) false 0) (fun k => by simp only [spec_Framing.j0, Bool.false_eq_true, if_false]) ?_
        refine Ev.step (f := fun _ => some (kindL (hasL l nTE) false a1 a2 0)) (fun k => ?_) (by simpa using Ev.now _)
        simp only [spec_Framing.j2, kindL]
        cases a2 <;> cases hasL l nTE <;> cases a1 <;> rfl
      · refine Ev.step (f := fun k => (spec_Words.f k l nCL).bind fun t => (if (t.length : Int) = 0 then (some (4, 0)) else (spec_Framing.l0 k a1 a2 (hasL l nTE) true 0 t 0))) (fun k => by simp only [spec_Framing.j0, if_true]; rfl) ?_
        refine (specWords_is l nCL hl ht nCL_sz).bind ?_
        simp only [if_true]
        by_cases h0 : wordsL l nCL = []
        · simp only [h0, List.length_nil]; simpa [lenL, lensL] using Ev.now _
        · have hpos : 1 ≤ (wordsL l nCL).length := List.length_pos_iff.2 h0
          simp only [if_neg (show ¬ ((wordsL l nCL).length : Int) = 0 by omega)]
          have := specLen_go a1 a2 (hasL l nTE) true (wordsL l nCL) (by omega) (fun x hx => by have := hb2.2 x hx; omega) (wordsL l nCL) [] none rfl (by simp) (by simp)
          rw [if_neg h0] at this
          simpa [lenL] using this
    cases hte : hasL l nTE
    · simp only [Bool.false_eq_true, if_false, false_and]
      rw [hte] at tail
      exact tail
    · simp only [if_true, true_and]
      refine (specWords_is l nTE hl ht nTE_sz).bind ?_
      rw [hte] at tail
      cases hcl : hasL l nCL
      · rw [hcl] at tail
        simp only [Bool.false_eq_true, if_false, false_or]
        by_cases h1w : (wordsL l nTE).length = 1
        · simp only [if_pos (show ((wordsL l nTE).length : Int) = 1 by omega), if_pos (show (0 : Int) < ((wordsL l nTE).length : Int) by omega)]
          have hsz : (rdOf ByteArray.empty (wordsL l nTE) 0).size ≤ 1099511627776 := by
            obtain ⟨w, hw⟩ := List.length_eq_one_iff.1 h1w
            rw [hw]; have := hb1.2 w (by rw [hw]; simp); show w.size ≤ _; omega
          simp only [specFold_is _ hsz, Option.bind_some]
          by_cases hch : (lowS (rdOf ByteArray.empty (wordsL l nTE) 0)).toList = [99, 104, 117, 110, 107, 101, 100]
          · simp only [if_pos hch]
            rw [if_neg (by simp [h1w, hch])]
            simpa using tail
          · simp only [if_neg hch]
            rw [if_pos (Or.inr hch)]; exact Ev.now _
        · simp only [if_neg (show ¬ ((wordsL l nTE).length : Int) = 1 by omega)]
          rw [if_pos (Or.inl h1w)]; exact Ev.now _
      · simp only [if_true, true_or]; exact Ev.now _
  · simp only [if_neg hok]; exact Ev.now _
theorem implFraming_is (l : List IFld) (a1 a2 : Bool) (hl : l.length ≤ 1048576) (ht : totF l ≤ 1048576) : Ev (fun k => impl_Framing.f k l a1 a2) (framingL l a1 a2) := by
  have ho := smallF_tot l ht
  unfold impl_Framing.f framingL
  refine (implFieldsOk_is l).bind ?_
  by_cases hok : fldsOk l = true
  · simp only [if_pos hok, nTE_is, nCL_is]
    refine (implHas_is l nTE hl ho nTE_sz).bind ?_
    refine (implHas_is l nCL hl ho nCL_sz).bind ?_
    have hb1 := wordsL_bnd l nTE
    have hb2 := wordsL_bnd l nCL
    have jk : ∀ x8 x9 : Bool, ∀ n : Int, Ev (fun k => impl_Framing.j1 k a1 a2 x8 x9 n) (kindL x8 x9 a1 a2 n) := by
      intro x8 x9 n
      refine Ev.step (f := fun _ => some (kindL x8 x9 a1 a2 n)) (fun k => ?_) (Ev.now _)
      simp only [impl_Framing.j1, kindL]
      cases a2 <;> cases x8 <;> cases x9 <;> cases a1 <;> rfl
    have tail : Ev (fun k => impl_Framing.j0 k l a1 a2 (hasL l nTE) (hasL l nCL)) (if hasL l nCL = true then (match lenL (wordsL l nCL) with | some n => kindL (hasL l nTE) true a1 a2 n | none => (4, 0)) else kindL (hasL l nTE) false a1 a2 0) := by
      cases hc : hasL l nCL
      · refine Ev.step (f := fun k => impl_Framing.j1 k a1 a2 (hasL l nTE) false 0) (fun k => by simp only [impl_Framing.j0, Bool.false_eq_true, if_false]) ?_
        simpa using jk _ _ _
      · refine Ev.step (f := fun k => (impl_lengthOf.f k l).bind fun b => (if b.2 = true then (impl_Framing.j1 k a1 a2 (hasL l nTE) true b.1) else (some (4, 0)))) (fun k => by simp only [impl_Framing.j0, if_true]) ?_
        have hlen : Ev (fun k => impl_lengthOf.f k l) (match lensL (wordsL l nCL) none with | some n => (n, true) | none => if wordsL l nCL = [] then ((-1 : Int), false) else ((0 : Int), false)) := by
          unfold impl_lengthOf.f
          rw [nCL_is]
          refine (implWords_is l nCL hl ht nCL_sz).bind ?_
          simpa using implLen_go (wordsL l nCL) (by omega) (fun x hx => by have := hb2.2 x hx; omega) (wordsL l nCL) [] none rfl (by simp)
        refine hlen.bind ?_
        unfold lenL
        cases hll : lensL (wordsL l nCL) none with
        | none =>
          by_cases h0 : wordsL l nCL = []
          · simpa [h0] using Ev.now ((4 : Int), (0 : Int))
          · simpa [h0] using Ev.now ((4 : Int), (0 : Int))
        | some n => simpa using jk (hasL l nTE) true n
    cases hte : hasL l nTE
    · simp only [Bool.false_eq_true, if_false, false_and]
      rw [hte] at tail
      exact tail
    · simp only [if_true, true_and]
      refine (implWords_is l nTE hl ht nTE_sz).bind ?_
      rw [hte] at tail
      cases hcl : hasL l nCL
      · rw [hcl] at tail
        simp only [Bool.false_eq_true, if_false, false_or]
        by_cases h1w : (wordsL l nTE).length = 1
        · simp only [if_pos (show ((wordsL l nTE).length : Int) = 1 by omega), if_pos (show (0 : Int) < ((wordsL l nTE).length : Int) by omega)]
          have hsz : (rdOf ByteArray.empty (wordsL l nTE) 0).size ≤ 1099511627776 := by
            obtain ⟨w, hw⟩ := List.length_eq_one_iff.1 h1w
            rw [hw]; have := hb1.2 w (by rw [hw]; simp); show w.size ≤ _; omega
          simp only [implFold_is _ hsz, Option.bind_some]
          by_cases hch : (lowS (rdOf ByteArray.empty (wordsL l nTE) 0)).toList = [99, 104, 117, 110, 107, 101, 100]
          · simp only [if_pos hch]
            rw [if_neg (by simp [h1w, hch])]
            simpa using tail
          · simp only [if_neg hch]
            rw [if_pos (Or.inr hch)]; exact Ev.now _
        · simp only [if_neg (show ¬ ((wordsL l nTE).length : Int) = 1 by omega)]
          rw [if_pos (Or.inl h1w)]; exact Ev.now _
      · simp only [if_true, true_or]; exact Ev.now _
  · simp only [if_neg hok]; exact Ev.now _

theorem FnExactFraming : laws_FnExactFraming.Pure := by
  intro l a1 a2 ⟨hl, hb⟩
  obtain ⟨q, hq, hle, hs⟩ := szFieldS_is l 1048576 hb hl (by omega) (by omega)
  refine Ev.rounds ?_
  unfold laws_FnExactFraming.f
  refine hq.bind ?_
  by_cases h : q < 0
  · simp only [h, if_true]; exact Ev.now _
  · simp only [h, if_false]
    have hl2 : l.length ≤ 1048576 := by have := hs (by omega); omega
    have hsum : (l.map wFld).sum ≤ 1048576 := by have := hs (by omega); omega
    have hl3 : (l.map cFld).length ≤ 1048576 := by simpa using hl2
    have ht : totF (l.map cFld) ≤ 1048576 := by rw [totF_conv]; exact hsum
    refine (toFieldS_is l hl2).bind ?_
    refine (specFraming_is _ a1 a2 hl3 ht).bind ?_
    refine (toFieldS_is l hl2).bind ?_
    refine (implFraming_is _ a1 a2 hl3 ht).bind ?_
    simp only [if_true, bne_self_eq_false]
    refine Ev.step (f := fun k => (laws_toFieldS.f k l).bind fun t => (laws_eqFieldS.f k (l.map cFld) t).bind fun q => if q = true then some true else some false) (fun k => by simp only [laws_FnExactFraming.j0, Bool.false_eq_true, if_false]) ?_
    refine (toFieldS_is l hl2).bind ?_
    refine (eqFieldS_is _ hl3).bind ?_
    simpa using Ev.now true

end Go.Proofs.YtjifjfgehabkcaaDoor.Pure
