/- Chunks of the program and of the reference agree, and the call returns true, for every text. No condition. -/
import Derived.Test.YtnfjjbpochmhpaaGFnExactChunksx9
import Derived.Laws.Strings
import Derived.Lib.Index
import Derived.Lib.IndexAny
import Derived.Lib.IndexMore
import Derived.OpenShut
namespace Go.Proofs.Ytnfjjbpochmhpaa.Pure
open Go.RowKit Go.Proofs.Ytnfjjbpochmhpaa.GFnExactChunks Go.Proofs.YtnfjjbpochmhpaaW.PrintWords Go.Proofs.YtnfjjbpochmhpaaW.PrintLast Go.Proofs.YtnfjjbpochmhpaaW.PrintMore
set_option linter.unusedVariables false
set_option linter.unusedSimpArgs false

/-! #### Bytes -/
/-- More rounds: an Ev of a function of its own. -/
theorem Ev.mono1 {α : Type} {g : Nat → Option α} {r : α} (K : Nat) (h : ∀ k, g (k + K) = some r) : Ev g r :=
  ⟨K, fun k hk => by obtain ⟨m, rfl⟩ : ∃ m, k = m + K := ⟨k - K, by omega⟩; exact h m⟩
theorem toList_inj {a b : ByteArray} (h : a.toList = b.toList) : a = b := by
  rw [ByteArray.toList_eq, ByteArray.toList_eq] at h
  cases a; cases b; simp_all
theorem getD_mid {α : Type} (pre : List α) (x : α) (r : List α) (z : α) : (pre ++ x :: r).getD ((pre.length : Int).toNat) z = x := by simp [List.getD]
theorem wrap_succ {n : Nat} (h : n < 9223372036854775807) : wrap64 ((n : Int) + 1) = ((n + 1 : Nat) : Int) := by unfold wrap64; omega
theorem wrap_id {a : Int} (h1 : -9223372036854775808 ≤ a) (h2 : a ≤ 9223372036854775807) : wrap64 a = a := by unfold wrap64; omega
theorem len_mid {α : Type} (pre : List α) (x : α) (r : List α) : (pre.length : Int) < ((pre ++ x :: r).length : Int) := by simp; omega
theorem app_mid {α : Type} (pre : List α) (x : α) (r : List α) : pre ++ x :: r = (pre ++ [x]) ++ r := by simp
theorem len_snoc {α : Type} (pre : List α) (x : α) : ((pre ++ [x]).length : Int) = (pre.length : Int) + 1 := by simp
theorem toList_length (s : ByteArray) : s.toList.length = s.size := by rw [ByteArray.toList_eq, Array.length_toList]; rfl
theorem size_pos_iff (s : ByteArray) : (s.toList = ([] : List UInt8)) ↔ (s.size : Int) = 0 := by
  rw [← List.length_eq_zero_iff, toList_length]; omega
theorem size_strOf (xs : List Int) : (strOfNums xs).size = xs.length := by
  show (strOfNums xs).data.size = _
  simp [strOfNums]
theorem length_bytesOf (s : ByteArray) : (bytesOf s).length = s.size := bytesOf_length s
theorem less_irrefl : ∀ l : List UInt8, Op.bytesLess l l = false
  | [] => rfl
  | a :: l => by simp [Op.bytesLess, less_irrefl l]
theorem less_total : ∀ l m : List UInt8, l ≠ m → Op.bytesLess l m = !Op.bytesLess m l
  | [], [], h => absurd rfl h
  | [], _ :: _, _ => rfl
  | _ :: _, [], _ => rfl
  | a :: l, b :: m, h => by
    by_cases e : a = b
    · subst e
      have := less_total l m (fun e => h (by rw [e]))
      simp [Op.bytesLess, this]
    · have hne : (a == b) = false := by simpa using e
      have hne' : (b == a) = false := by simpa using fun x => e x.symm
      simp only [Op.bytesLess, hne, hne', Bool.false_and, Bool.or_false]
      rcases Nat.lt_trichotomy a.toNat b.toNat with h1 | h1 | h1
      · have x1 : a < b := UInt8.lt_iff_toNat_lt.2 h1
        have x2 : ¬ b < a := fun x => by have := UInt8.lt_iff_toNat_lt.1 x; omega
        simp [x1, x2]
      · exact absurd (UInt8.toNat_inj.1 h1) e
      · have x1 : b < a := UInt8.lt_iff_toNat_lt.2 h1
        have x2 : ¬ a < b := fun x => by have := UInt8.lt_iff_toNat_lt.1 x; omega
        simp [x1, x2]

/-! #### Str -/
def mkB (l : List UInt8) : ByteArray := ⟨l.toArray⟩
def bl (s : ByteArray) : List UInt8 := s.data.toList
theorem mk_bl (s : ByteArray) : mkB (bl s) = s := by cases s; simp [mkB, bl]
theorem bl_mk (l : List UInt8) : bl (mkB l) = l := by simp [mkB, bl]
theorem size_mk (l : List UInt8) : (mkB l).size = l.length := by show (mkB l).data.size = _; simp [mkB]
theorem size_bl (s : ByteArray) : (bl s).length = s.size := by rw [bl, Array.length_toList]; rfl
theorem toList_bl (s : ByteArray) : s.toList = bl s := ByteArray.toList_eq s
theorem toList_mk (l : List UInt8) : (mkB l).toList = l := by rw [toList_bl, bl_mk]
theorem mkB_inj {l m : List UInt8} (h : mkB l = mkB m) : l = m := by rw [← bl_mk l, h, bl_mk]
theorem getB (l : List UInt8) (i : Nat) (h : i < (mkB l).size) : (mkB l)[i]'h = l[i]'(by rwa [size_mk] at h) := by
  show (mkB l).data[i]'h = _
  simp [mkB]
theorem bt_at_ (l : List UInt8) (i : Nat) (h : i < l.length) : bt (mkB l) (i : Int) = ((l[i]'h).toNat : Int) := by
  unfold bt
  rw [dif_pos (by rw [size_mk]; simpa using h), getB]
  simp
theorem bt_mid (pre : List UInt8) (b : UInt8) (r : List UInt8) : bt (mkB (pre ++ b :: r)) (pre.length : Int) = (b.toNat : Int) := by
  rw [bt_at_ _ _ (by simp)]
  simp
theorem extract_mk (l : List UInt8) (i j : Nat) : (mkB l).extract i j = mkB ((l.drop i).take (j - i)) := by
  apply toList_inj
  rw [toList_mk, toList_bl, bl, ByteArray.data_extract, Array.toList_extract]
  simp [mkB, List.extract]
theorem drop_mid (pre : List UInt8) (b : UInt8) (r : List UInt8) : (pre ++ b :: r).drop (pre.length + 1) = r := by
  rw [app_mid, List.drop_left' (by simp)]
theorem size_lt_mid (pre : List UInt8) (b : UInt8) (r : List UInt8) : (pre.length : Int) < ((mkB (pre ++ b :: r)).size : Int) := by rw [size_mk]; exact len_mid ..
theorem u8_lt (b : UInt8) : (b.toNat : Int) < 256 := by have := b.toNat_lt; omega
theorem toUInt8_toNat (b : UInt8) : ((b.toNat : Int)).toNat.toUInt8 = b := by simp
/-- 'for all bytes', as a loop over a string's places. -/
theorem all_loop (F : Nat → ByteArray → Int → Option Bool) (G : Nat → Int → Option Bool) (p : UInt8 → Bool) (hG : ∀ b : UInt8, Ev (fun k => G k b.toNat) (p b))
    (hF : ∀ k s i, F (k + 1) s i = if i < (s.size : Int) then (if 0 ≤ i then (G k (bt s i)).bind fun t => (if t = true then F k s (wrap64 (i + 1)) else some false) else none) else some true) :
    ∀ (r pre : List UInt8), (pre ++ r).length ≤ 9223372036854775806 → Ev (fun k => F k (mkB (pre ++ r)) pre.length) (r.all p)
  | [], pre, _ => Ev.step (f := fun _ => some true) (fun k => by rw [hF, size_mk]; simp) (Ev.now _)
  | b :: r, pre, hl => by
    have ih := all_loop F G p hG hF r (pre ++ [b]) (by rw [← app_mid]; exact hl)
    rw [← app_mid, len_snoc] at ih
    simp at hl
    refine Ev.step (f := fun k => (G k b.toNat).bind fun t => (if t = true then F k (mkB (pre ++ b :: r)) (pre.length + 1) else some false)) (fun k => ?_) ?_
    · rw [hF, if_pos (size_lt_mid ..), if_pos (by omega), bt_mid, wrap_id (by omega) (by omega)]
    refine (hG b).bind ?_
    cases hp : p b
    · simpa [List.all_cons, hp] using Ev.now false
    · simpa [List.all_cons, hp] using ih
theorem all_ev (F : Nat → ByteArray → Int → Option Bool) (G : Nat → Int → Option Bool) (p : UInt8 → Bool) (hG : ∀ b : UInt8, Ev (fun k => G k b.toNat) (p b))
    (hF : ∀ k s i, F (k + 1) s i = if i < (s.size : Int) then (if 0 ≤ i then (G k (bt s i)).bind fun t => (if t = true then F k s (wrap64 (i + 1)) else some false) else none) else some true)
    (s : ByteArray) (hs : s.size ≤ 9223372036854775806) : Ev (fun k => F k s 0) ((bl s).all p) := by
  have := all_loop F G p hG hF (bl s) [] (by simpa [size_bl] using hs)
  simpa [mk_bl] using this
theorem Ev.const {α : Type} {x : Option α} {r : α} (h : x = some r) : Ev (fun _ => x) r := ⟨0, fun _ _ => h⟩

/-! #### Trim -/
def wh (b : UInt8) : Bool := decide (b.toNat = 32) || decide (b.toNat = 9)
def trimB (l : List UInt8) : List UInt8 := ((l.dropWhile wh).reverse.dropWhile wh).reverse
theorem l1white_is (b : UInt8) : spec_l1white.f (b.toNat : Int) = some (wh b) := by
  unfold spec_l1white.f wh
  by_cases h : b.toNat = 32
  · rw [if_pos (by omega)]; simp [h]
  · rw [if_neg (by omega)]
    by_cases h' : b.toNat = 9
    · simp [h']
    · simp [h, h']; omega
theorem isSpace_is (b : UInt8) : impl_isSpace.f (b.toNat : Int) = some (wh b) := l1white_is b
theorem take_mid (pre m suf : List UInt8) : ((pre ++ (m ++ suf)).drop pre.length).take (pre.length + m.length - pre.length) = m := by simp
theorem bt_mid2 (pre m : List UInt8) (b : UInt8) (suf : List UInt8) (i : Int) (hi : i = (pre.length : Int) + (m.length : Int)) : bt (mkB (pre ++ (m ++ b :: suf))) i = (b.toNat : Int) := by
  have := bt_mid (pre ++ m) b suf
  rw [List.append_assoc] at this
  rw [hi, ← this]; simp
theorem specTrim_end : ∀ (m pre suf : List UInt8), (pre ++ (m.reverse ++ suf)).length ≤ 9223372036854775806 →
    Ev (fun k => spec_Trim.l1 k (mkB (pre ++ (m.reverse ++ suf))) pre.length ((pre.length : Int) + m.length)) (mkB (m.dropWhile wh).reverse)
  | [], pre, suf, hl => by
    refine Ev.step (f := fun _ => some (mkB [])) (fun k => ?_) (by simpa using Ev.now (mkB []))
    simp only [spec_Trim.l1]
    simp at hl
    rw [if_neg (by simp), if_pos (by omega), if_pos (by simp), if_pos (by rw [size_mk]; simp <;> omega), extract_mk]
    simp
  | b :: m, pre, suf, hl => by
    have e : pre ++ ((b :: m).reverse ++ suf) = pre ++ (m.reverse ++ b :: suf) := by simp
    rw [e] at hl ⊢
    have hl2 := hl
    simp at hl2
    have hb : bt (mkB (pre ++ (m.reverse ++ b :: suf))) ((pre.length : Int) + m.length) = (b.toNat : Int) := bt_mid2 pre m.reverse b suf _ (by simp)
    have hw : wrap64 ((pre.length : Int) + ((b :: m).length : Int) - 1) = (pre.length : Int) + m.length := by rw [wrap_id (by simp <;> omega) (by simp <;> omega)]; simp <;> omega
    by_cases hwb : wh b = true
    · have ih := specTrim_end m pre (b :: suf) hl
      rw [List.dropWhile_cons, if_pos hwb]
      refine Ev.step (fun k => ?_) ih
      simp only [spec_Trim.l1]
      rw [if_pos (by simp <;> omega), hw, if_pos (by omega), if_pos (by rw [size_mk]; simp <;> omega), hb, l1white_is, hwb]
      simp
    · rw [List.dropWhile_cons, if_neg hwb]
      have hwb' : wh b = false := by simpa using hwb
      refine Ev.step (f := fun _ => some (mkB (b :: m).reverse)) (fun k => ?_) (Ev.now _)
      simp only [spec_Trim.l1]
      rw [if_pos (by simp <;> omega), hw, if_pos (by omega), if_pos (by rw [size_mk]; simp <;> omega), hb, l1white_is, hwb']
      simp only [Option.bind_some, Bool.false_eq_true, if_false]
      rw [if_pos (by omega), if_pos (by simp <;> omega), if_pos (by rw [size_mk]; simp <;> omega), extract_mk]
      have hn : ((pre.length : Int) + ((b :: m).length : Int)).toNat = pre.length + (b :: m).reverse.length := by simp; omega
      rw [hn, Int.toNat_natCast, ← e, take_mid]
theorem specTrim_go : ∀ (r pre : List UInt8), (pre ++ r).length ≤ 9223372036854775806 →
    Ev (fun k => spec_Trim.l0 k (mkB (pre ++ r)) pre.length) (mkB (trimB r))
  | [], pre, hl => by
    have := specTrim_end [] pre [] (by simpa using hl)
    refine Ev.step (f := fun k => spec_Trim.j1 k (mkB (pre ++ [])) pre.length) (fun k => by simp only [spec_Trim.l0]; rw [if_neg (by rw [size_mk]; simp)]) ?_
    refine Ev.step (f := fun k => spec_Trim.l1 k (mkB (pre ++ [])) pre.length ((mkB (pre ++ [])).size : Int)) (fun k => by simp only [spec_Trim.j1]) ?_
    rw [size_mk]
    simpa [trimB] using this
  | b :: r, pre, hl => by
    have hl2 := hl
    simp at hl2
    by_cases hwb : wh b = true
    · have ih := specTrim_go r (pre ++ [b]) (by rw [← app_mid]; exact hl)
      rw [← app_mid, len_snoc] at ih
      have et : trimB (b :: r) = trimB r := by simp [trimB, List.dropWhile_cons, hwb]
      rw [et]
      refine Ev.step (fun k => ?_) ih
      simp only [spec_Trim.l0]
      rw [if_pos (size_lt_mid ..), if_pos (by omega), bt_mid, l1white_is, hwb, wrap_id (by omega) (by omega)]
      simp
    · have hwb' : wh b = false := by simpa using hwb
      have := specTrim_end (b :: r).reverse pre [] (by simpa using hl)
      refine Ev.step (f := fun k => spec_Trim.j1 k (mkB (pre ++ b :: r)) pre.length) (fun k => ?_) ?_
      · simp only [spec_Trim.l0]
        rw [if_pos (size_lt_mid ..), if_pos (by omega), bt_mid, l1white_is, hwb']
        simp
      refine Ev.step (f := fun k => spec_Trim.l1 k (mkB (pre ++ b :: r)) pre.length ((mkB (pre ++ b :: r)).size : Int)) (fun k => by simp only [spec_Trim.j1]) ?_
      have e2 : ((mkB (pre ++ b :: r)).size : Int) = (pre.length : Int) + ((b :: r).reverse.length : Int) := by rw [size_mk]; simp
      rw [e2]
      have et : trimB (b :: r) = ((b :: r).reverse.dropWhile wh).reverse := by simp only [trimB, List.dropWhile_cons, hwb', Bool.false_eq_true, if_false]
      rw [et]
      simpa using this
theorem specTrim_is (s : ByteArray) (hs : s.size ≤ 9223372036854775806) : Ev (fun k => spec_Trim.f k s) (mkB (trimB (bl s))) := by
  have := specTrim_go (bl s) [] (by simpa [size_bl] using hs)
  simpa [mk_bl, spec_Trim.f] using this
theorem implTrim_end : ∀ (m : List UInt8), m.length ≤ 9223372036854775806 → Ev (fun k => impl_Trim.l1 k (mkB m.reverse)) (mkB (m.dropWhile wh).reverse)
  | [], _ => Ev.step (f := fun _ => some (mkB [])) (fun k => by simp [impl_Trim.l1, toList_mk]) (by simpa using Ev.now (mkB []))
  | b :: m, hl => by
    simp at hl
    have hw : wrap64 (((mkB (b :: m).reverse).size : Int) - 1) = (m.length : Int) := by rw [size_mk, wrap_id (by simp <;> omega) (by simp <;> omega)]; simp
    have hb : bt (mkB (b :: m).reverse) (m.length : Int) = (b.toNat : Int) := by
      have := bt_mid m.reverse b []
      simpa using this
    have hcell : ∀ k, impl_Trim.l1 (k + 1) (mkB (b :: m).reverse) = if wh b = true then impl_Trim.l1 k (mkB m.reverse) else some (mkB (b :: m).reverse) := by
      intro k
      simp only [impl_Trim.l1]
      rw [if_neg (by rw [toList_mk]; simp), hw, if_pos (by omega), if_pos (by rw [size_mk]; simp <;> omega), hb, isSpace_is]
      simp only [Option.bind_some]
      split
      · rw [if_pos (by rw [size_mk]; simp <;> omega), extract_mk]
        congr 2
        simp
      · rfl
    by_cases hwb : wh b = true
    · rw [List.dropWhile_cons, if_pos hwb]
      exact Ev.step (fun k => by rw [hcell, if_pos hwb]) (implTrim_end m (by omega))
    · rw [List.dropWhile_cons, if_neg hwb]
      exact Ev.step (f := fun _ => some (mkB (b :: m).reverse)) (fun k => by rw [hcell, if_neg hwb]) (Ev.now _)
theorem implTrim_go : ∀ (r : List UInt8), r.length ≤ 9223372036854775806 → Ev (fun k => impl_Trim.l0 k (mkB r)) (mkB (trimB r))
  | [], _ => by
    have := implTrim_end [] (by simp)
    refine Ev.step (f := fun k => impl_Trim.j1 k (mkB [])) (fun k => by simp [impl_Trim.l0, toList_mk]) ?_
    exact Ev.step (f := fun k => impl_Trim.l1 k (mkB [])) (fun k => by simp only [impl_Trim.j1]) (by simpa [trimB] using this)
  | b :: r, hl => by
    simp at hl
    have hb : bt (mkB (b :: r)) 0 = (b.toNat : Int) := by simpa using bt_mid [] b r
    by_cases hwb : wh b = true
    · have ih := implTrim_go r (by omega)
      have et : trimB (b :: r) = trimB r := by simp [trimB, List.dropWhile_cons, hwb]
      rw [et]
      refine Ev.step (fun k => ?_) ih
      simp only [impl_Trim.l0]
      rw [if_neg (by rw [toList_mk]; simp), if_pos (by rw [size_mk]; simp <;> omega), hb, isSpace_is, hwb]
      simp only [Option.bind_some, if_true]
      rw [if_pos (by rw [size_mk]; simp <;> omega), extract_mk]
      simp [size_mk]
    · have hwb' : wh b = false := by simpa using hwb
      have := implTrim_end (b :: r).reverse (by simpa using hl)
      refine Ev.step (f := fun k => impl_Trim.j1 k (mkB (b :: r))) (fun k => ?_) ?_
      · simp only [impl_Trim.l0]
        rw [if_neg (by rw [toList_mk]; simp), if_pos (by rw [size_mk]; simp <;> omega), hb, isSpace_is, hwb']
        simp
      refine Ev.step (f := fun k => impl_Trim.l1 k (mkB (b :: r))) (fun k => by simp only [impl_Trim.j1]) ?_
      have et : trimB (b :: r) = ((b :: r).reverse.dropWhile wh).reverse := by simp only [trimB, List.dropWhile_cons, hwb', Bool.false_eq_true, if_false]
      rw [et]
      simpa using this
theorem implTrim_is (s : ByteArray) (hs : s.size ≤ 9223372036854775806) : Ev (fun k => impl_Trim.f k s) (mkB (trimB (bl s))) := by
  have := implTrim_go (bl s) (by simpa [size_bl] using hs)
  simpa [mk_bl, impl_Trim.f] using this

/-! #### Chars -/
def plB (b : UInt8) : Bool := decide (b.toNat = 9) || (decide (32 ≤ b.toNat) && decide (b.toNat ≠ 127))
theorem specPlain_is (b : UInt8) : spec_l1plain.f (b.toNat : Int) = some (plB b) := by
  unfold spec_l1plain.f plB
  by_cases h : b.toNat = 9
  · rw [if_pos (by omega)]; simp [h]
  · rw [if_neg (by omega)]
    by_cases h' : 32 ≤ b.toNat
    · rw [if_pos (by omega)]; congr 1; rw [Bool.eq_iff_iff]; simp [h, h']; omega
    · rw [if_neg (by omega)]; simp [h, h']
theorem implPlain_is (b : UInt8) : impl_isPlain.f (b.toNat : Int) = some (plB b) := specPlain_is b

/-! #### Token -/
def tokOdd : List UInt8 := [33, 35, 36, 37, 38, 39, 42, 43, 45, 46, 94, 95, 124, 126]
def lowB (b : UInt8) : Bool := decide (97 ≤ b.toNat) && decide (b.toNat ≤ 122)
def uppB (b : UInt8) : Bool := decide (65 ≤ b.toNat) && decide (b.toNat ≤ 90)
def digB (b : UInt8) : Bool := decide (48 ≤ b.toNat) && decide (b.toNat ≤ 57)
def tokB (b : UInt8) : Bool := lowB b || uppB b || digB b || decide (b.toNat = 96) || tokOdd.contains b
theorem isLower_is (b : UInt8) : impl_isLower.f (b.toNat : Int) = some (lowB b) := by
  unfold impl_isLower.f lowB
  by_cases h : 97 ≤ b.toNat
  · rw [if_pos (by omega)]; congr 1; rw [Bool.eq_iff_iff]; simp [h]; omega
  · rw [if_neg (by omega)]; simp [h]
theorem isUpper_is (b : UInt8) : impl_isUpper.f (b.toNat : Int) = some (uppB b) := by
  unfold impl_isUpper.f uppB
  by_cases h : 65 ≤ b.toNat
  · rw [if_pos (by omega)]; congr 1; rw [Bool.eq_iff_iff]; simp [h]; omega
  · rw [if_neg (by omega)]; simp [h]
theorem isDigit_is (b : UInt8) : impl_isDigit.f (b.toNat : Int) = some (digB b) := by
  unfold impl_isDigit.f digB
  by_cases h : 48 ≤ b.toNat
  · rw [if_pos (by omega)]; congr 1; rw [Bool.eq_iff_iff]; simp [h]; omega
  · rw [if_neg (by omega)]; simp [h]
theorem l1digit_is (b : UInt8) : spec_l1digit.f (b.toNat : Int) = some (digB b) := isDigit_is b
theorem indexByte_pos : ∀ (l : List UInt8) (c : UInt8), Lib.indexByte l c ≥ 0 ↔ l.contains c = true
  | [], c => by simp [Lib.indexByte]
  | b :: l, c => by
    have ih := indexByte_pos l c
    have lo : -1 ≤ Lib.indexByte l c := Lib.indexByte_ge l c
    unfold Lib.indexByte
    by_cases h : b = c
    · subst h; simp
    · have hb : (b == c) = false := by simpa using h
      have hc : (c == b) = false := by simpa using fun x => h x.symm
      rw [hb]
      simp only [Bool.false_eq_true, if_false, List.contains_cons, hc, Bool.false_or]
      rw [← ih]
      by_cases h2 : Lib.indexByte l c = -1
      · simp [h2]
      · have : (Lib.indexByte l c == -1) = false := by simpa using h2
        rw [this]; simp; omega
theorem isTokenByte_is (b : UInt8) : impl_isTokenByte.f (b.toNat : Int) = some (tokB b) := by
  have hi : (decide (Lib.indexByte tokOdd b ≥ 0)) = tokOdd.contains b := by
    rw [Bool.eq_iff_iff, decide_eq_true_iff]; exact indexByte_pos _ _
  have hx : strings_IndexByte.f (⟨#[33, 35, 36, 37, 38, 39, 42, 43, 45, 46, 94, 95, 124, 126]⟩ : ByteArray) (b.toNat : Int) = some (Lib.indexByte tokOdd b) := by
    unfold strings_IndexByte.f; rw [toUInt8_toNat]; rfl
  unfold impl_isTokenByte.f
  simp only [isLower_is, isUpper_is, isDigit_is, hx, Option.bind_some, hi]
  unfold tokB
  cases lowB b <;> cases uppB b <;> cases digB b <;> simp
  all_goals (by_cases h : b.toNat = 96 <;> simp [h])
  all_goals (try omega)
theorem has_go (c : Int) : ∀ (r pre : List UInt8), (pre ++ r).length ≤ 9223372036854775806 → Ev (fun k => spec_l1has.l0 k (mkB (pre ++ r)) c pre.length) (r.any fun x => decide ((x.toNat : Int) = c))
  | [], pre, hl => Ev.step (f := fun _ => some false) (fun k => by simp only [spec_l1has.l0]; rw [if_neg (by rw [size_mk]; simp)]) (Ev.now _)
  | b :: r, pre, hl => by
    have ih := has_go c r (pre ++ [b]) (by rw [← app_mid]; exact hl)
    rw [← app_mid, len_snoc] at ih
    simp at hl
    by_cases h : (b.toNat : Int) = c
    · refine Ev.step (f := fun _ => some true) (fun k => ?_) (by simpa [h] using Ev.now true)
      simp only [spec_l1has.l0]
      rw [if_pos (size_lt_mid ..), if_pos (by omega), bt_mid, if_pos h]
    · refine Ev.step (fun k => ?_) (by simpa [h] using ih)
      simp only [spec_l1has.l0]
      rw [if_pos (size_lt_mid ..), if_pos (by omega), bt_mid, if_neg h, wrap_id (by omega) (by omega)]
theorem has_is (set : List UInt8) (b : UInt8) (h : set.length ≤ 9223372036854775806) : Ev (fun k => spec_l1has.f k (mkB set) (b.toNat : Int)) (set.contains b) := by
  have := has_go (b.toNat : Int) set [] (by simpa using h)
  have e : (set.any fun x => decide ((x.toNat : Int) = (b.toNat : Int))) = set.contains b := by
    rw [← List.any_beq]
    congr 1
    funext x
    rw [Bool.eq_iff_iff]
    simp only [decide_eq_true_eq, beq_iff_eq]
    constructor
    · intro h; exact (UInt8.toNat_inj.1 (by omega)).symm
    · intro h; rw [h]
  rw [e] at this
  simpa [spec_l1has.f] using this
theorem tchar_is (b : UInt8) : Ev (fun k => spec_l1tchar.f k (b.toNat : Int)) (tokB b) := by
  have hb := u8_lt b
  have hh : Ev (fun k => spec_l1has.f k (⟨#[33, 35, 36, 37, 38, 39, 42, 43, 45, 46, 94, 95, 124, 126]⟩ : ByteArray) (b.toNat : Int)) (tokOdd.contains b) := has_is tokOdd b (by decide)
  have rest : Ev (fun k => if digB b = true then some true else if (b.toNat : Int) = 96 then some true else (spec_l1has.f k (⟨#[33, 35, 36, 37, 38, 39, 42, 43, 45, 46, 94, 95, 124, 126]⟩ : ByteArray) (b.toNat : Int)).bind fun t => some t) (digB b || decide (b.toNat = 96) || tokOdd.contains b) := by
    cases hd : digB b
    · by_cases h9 : b.toNat = 96
      · simpa [h9] using Ev.now true
      · have : ¬ (b.toNat : Int) = 96 := by omega
        simpa [h9, this] using hh.bind (f := fun _ (t : Bool) => some t) (Ev.now _)
    · simpa using Ev.now true
  unfold spec_l1tchar.f spec_l1lower.f
  simp only [l1digit_is]
  unfold tokB
  by_cases hU : 65 ≤ b.toNat ∧ b.toNat ≤ 90
  · have e1 : uppB b = true := by simp [uppB, hU]
    simp only [if_pos (show (b.toNat : Int) ≥ 65 by omega), if_pos (show (b.toNat : Int) ≤ 90 by omega), Option.bind_some, if_pos (show ((b.toNat : Int) + 32) % 256 ≥ 97 by omega), if_pos (show ((b.toNat : Int) + 32) % 256 ≤ 122 by omega)]
    simpa [e1] using Ev.now true
  · have e1 : uppB b = false := by simp [uppB]; omega
    have hlow : (if (b.toNat : Int) ≥ 65 then (if (b.toNat : Int) ≤ 90 then some (((b.toNat : Int) + 32) % 256) else some (b.toNat : Int)) else some (b.toNat : Int)) = some (b.toNat : Int) := by
      split
      · rw [if_neg (by omega)]
      · rfl
    rw [hlow]
    simp only [Option.bind_some]
    by_cases hL : 97 ≤ b.toNat
    · by_cases hL2 : b.toNat ≤ 122
      · have e2 : lowB b = true := by simp [lowB, hL, hL2]
        simp only [if_pos (show (b.toNat : Int) ≥ 97 by omega), if_pos (show (b.toNat : Int) ≤ 122 by omega)]
        simpa [e2] using Ev.now true
      · have e2 : lowB b = false := by simp [lowB, hL2]
        simp only [if_pos (show (b.toNat : Int) ≥ 97 by omega), if_neg (show ¬ (b.toNat : Int) ≤ 122 by omega)]
        simpa [e1, e2] using rest
    · have e2 : lowB b = false := by simp [lowB, hL]
      simp only [if_neg (show ¬ (b.toNat : Int) ≥ 97 by omega)]
      simpa [e1, e2] using rest
def tokenL (l : List UInt8) : Bool := decide (1 ≤ l.length) && decide (l.length ≤ 4000) && l.all tokB
theorem specToken_is (s : ByteArray) : Ev (fun k => spec_Token.f k s) (tokenL (bl s)) := by
  unfold spec_Token.f tokenL
  rw [size_bl]
  by_cases h0 : (s.size : Int) = 0
  · simp only [if_pos h0]
    refine Ev.step (f := fun _ => some false) (fun k => by simp [spec_Token.j0]) ?_
    simpa [show ¬ 1 ≤ s.size by omega] using Ev.now false
  · simp only [if_neg h0]
    by_cases h4 : (s.size : Int) > 4000
    · refine Ev.step (f := fun _ => some false) (fun k => by simp [spec_Token.j0, h4]) ?_
      simpa [show ¬ s.size ≤ 4000 by omega] using Ev.now false
    · refine Ev.step (f := fun k => spec_Token.l0 k s 0) (fun k => by simp [spec_Token.j0, h4]) ?_
      have := all_ev spec_Token.l0 spec_l1tchar.f tokB tchar_is (fun k s i => by simp only [spec_Token.l0]) s (by omega)
      simpa [show 1 ≤ s.size by omega, show s.size ≤ 4000 by omega] using this

/-! #### Within -/
theorem within_is (n a b : Int) : impl_within.f n a b = some (decide (a ≤ n) && decide (n ≤ b)) := by
  unfold impl_within.f
  by_cases h : a ≤ n <;> simp [h]

/-! #### FieldOk -/
theorem implToken_is (s : ByteArray) : Ev (fun k => impl_Token.f k s) (tokenL (bl s)) := by
  unfold impl_Token.f tokenL
  rw [size_bl]
  simp only [within_is, Option.bind_some]
  have e : (decide ((1 : Int) ≤ (s.size : Int)) && decide ((s.size : Int) ≤ 4000)) = (decide (1 ≤ s.size) && decide (s.size ≤ 4000)) := by rw [Bool.eq_iff_iff]; simp; omega
  rw [e]
  cases h : (decide (1 ≤ s.size) && decide (s.size ≤ 4000))
  · simpa using Ev.now false
  · have hs : s.size ≤ 9223372036854775806 := by simp at h; omega
    have := all_ev impl_all__impl_isTokenByte.l0 (fun _ c => impl_isTokenByte.f c) tokB (fun b => Ev.const (isTokenByte_is b)) (fun k s i => by simp only [impl_all__impl_isTokenByte.l0]) s hs
    simpa [impl_all__impl_isTokenByte.f] using this.bind (f := fun _ (t : Bool) => some t) (Ev.now _)
def fieldL (n v : List UInt8) : Bool := tokenL n && decide (n.length ≤ 40) && decide (v.length ≤ 190) && v.all plB && decide (trimB v = v)
theorem specL5plain_is (s : ByteArray) (hs : s.size ≤ 9223372036854775806) : Ev (fun k => spec_l5plain.f k s) ((bl s).all plB) := by
  have := all_ev spec_l5plain.l0 (fun _ c => spec_l1plain.f c) plB (fun b => Ev.const (specPlain_is b)) (fun k s i => by simp only [spec_l5plain.l0]) s hs
  simpa [spec_l5plain.f] using this
theorem implAllPlain_is (s : ByteArray) (hs : s.size ≤ 9223372036854775806) : Ev (fun k => impl_all__impl_isPlain.f k s) ((bl s).all plB) := by
  have := all_ev impl_all__impl_isPlain.l0 (fun _ c => impl_isPlain.f c) plB (fun b => Ev.const (implPlain_is b)) (fun k s i => by simp only [impl_all__impl_isPlain.l0]) s hs
  simpa [impl_all__impl_isPlain.f] using this
theorem trim_eq (v : ByteArray) : ((mkB (trimB (bl v))).toList == v.toList) = decide (trimB (bl v) = bl v) := by
  rw [toList_mk, toList_bl, Bool.eq_iff_iff]; simp
theorem specFieldOk_is (n v : ByteArray) : Ev (fun k => spec_FieldOk.f k n v) (fieldL (bl n) (bl v)) := by
  unfold spec_FieldOk.f fieldL
  rw [size_bl, size_bl]
  by_cases h1 : (n.size : Int) ≤ 40
  · simp only [if_pos h1]
    refine (specToken_is n).bind ?_
    cases ht : tokenL (bl n)
    · simpa using Ev.now false
    · by_cases h2 : (v.size : Int) ≤ 190
      · simp only [if_pos h2, if_true]
        refine (specL5plain_is v (by omega)).bind ?_
        cases hp : (bl v).all plB
        · simpa using Ev.now false
        · simp only [if_true]
          have := (specTrim_is v (by omega)).bind (f := fun _ (t : ByteArray) => some (t.toList == v.toList)) (Ev.now _)
          rw [trim_eq] at this
          simpa [show n.size ≤ 40 by omega, show v.size ≤ 190 by omega] using this
      · simp only [if_neg h2, if_true]
        simpa [show ¬ v.size ≤ 190 by omega] using Ev.now false
  · simp only [if_neg h1]
    simpa [show ¬ n.size ≤ 40 by omega] using Ev.now false
theorem implFieldOk_is (n v : ByteArray) : Ev (fun k => impl_FieldOk.f k n v) (fieldL (bl n) (bl v)) := by
  unfold impl_FieldOk.f fieldL
  rw [size_bl, size_bl]
  refine (implToken_is n).bind ?_
  cases ht : tokenL (bl n)
  · simpa using Ev.now false
  · by_cases h1 : (n.size : Int) ≤ 40
    · by_cases h2 : (v.size : Int) ≤ 190
      · simp only [if_pos h1, if_pos h2, if_true]
        refine (implAllPlain_is v (by omega)).bind ?_
        cases hp : (bl v).all plB
        · simpa using Ev.now false
        · simp only [if_true]
          have := (implTrim_is v (by omega)).bind (f := fun _ (t : ByteArray) => some (t.toList == v.toList)) (Ev.now _)
          rw [trim_eq] at this
          simpa [show n.size ≤ 40 by omega, show v.size ≤ 190 by omega] using this
      · simp only [if_pos h1, if_neg h2, if_true]
        simpa [show ¬ v.size ≤ 190 by omega] using Ev.now false
    · simp only [if_neg h1, if_true]
      simpa [show ¬ n.size ≤ 40 by omega] using Ev.now false

/-! #### Index -/
theorem index_short : ∀ (l sub : List UInt8), l.length < sub.length → Lib.index l sub = -1
  | [], sub, h => by cases sub <;> simp [Lib.index] at *
  | b :: l, sub, h => by
    have ih := index_short l sub (by simp at h; omega)
    have hp : sub.isPrefixOf (b :: l) = false := by
      rw [Bool.eq_false_iff]; intro hp
      have := (List.isPrefixOf_iff_prefix.1 hp).length_le
      omega
    simp [Lib.index, hp, ih]
theorem index_bound : ∀ (l sub : List UInt8), Lib.index l sub = -1 ∨ (0 ≤ Lib.index l sub ∧ Lib.index l sub + sub.length ≤ l.length)
  | [], sub => by cases sub <;> simp [Lib.index]
  | b :: l, sub => by
    unfold Lib.index
    by_cases hp : sub.isPrefixOf (b :: l) = true
    · have := (List.isPrefixOf_iff_prefix.1 hp).length_le
      rw [if_pos hp]; right; simp at this ⊢; omega
    · rw [if_neg hp]
      rcases index_bound l sub with h | h
      · left; simp [h]
      · right
        have : (Lib.index l sub == -1) = false := by simp; omega
        rw [this]; simp; omega

/-! #### Cut -/
def cutB (c : UInt8) : List UInt8 → List UInt8 × List UInt8 × Bool
  | [] => ([], [], false)
  | b :: l => if b = c then ([], l, true) else (b :: (cutB c l).1, (cutB c l).2)
theorem cut_is (c : UInt8) : ∀ l : List UInt8, Lib.cut l [c] = cutB c l
  | [] => by simp [Lib.cut, Lib.index, cutB]
  | b :: l => by
    have ih := cut_is c l
    have hb := index_bound l [c]
    unfold Lib.cut at ih ⊢
    by_cases h : b = c
    · subst h
      have hi : Lib.index (b :: l) [b] = 0 := by simp [Lib.index]
      rw [hi]; simp [cutB]
    · have hi : Lib.index (b :: l) [c] = if Lib.index l [c] = -1 then -1 else Lib.index l [c] + 1 := by
        have hc : (c == b) = false := by simpa using fun x => h x.symm
        simp only [Lib.index, List.isPrefixOf, hc, Bool.false_and, Bool.false_eq_true, if_false]
        by_cases hm : Lib.index l [c] = -1 <;> simp [hm]
      rw [hi, cutB, if_neg h]
      by_cases hm : Lib.index l [c] = -1
      · rw [hm] at ih
        rw [if_pos hm]
        rw [if_neg (by omega)] at ih ⊢
        rw [← ih]
      · rw [if_neg hm]
        rw [if_pos (by omega)] at ih
        rw [if_pos (by omega), ← ih]
        have e : (Lib.index l [c] + 1).toNat = (Lib.index l [c]).toNat + 1 := by omega
        rw [e]
        simp [Nat.add_right_comm]
theorem cutB_app (c : UInt8) : ∀ (pre r : List UInt8), (∀ b ∈ pre, b ≠ c) → cutB c (pre ++ r) = (pre ++ (cutB c r).1, (cutB c r).2)
  | [], r, _ => rfl
  | b :: pre, r, h => by
    have ih := cutB_app c pre r (fun x hx => h x (List.mem_cons_of_mem _ hx))
    rw [List.cons_append, cutB, if_neg (h b (by simp)), ih]; rfl
theorem cutB_len (c : UInt8) : ∀ l : List UInt8, (cutB c l).1.length + (cutB c l).2.1.length ≤ l.length
  | [] => by simp [cutB]
  | b :: l => by
    have ih := cutB_len c l
    unfold cutB; split
    · simp
    · simp; omega

/-! #### ReadField -/
def readFieldL (l : List UInt8) : ByteArray × ByteArray × Bool :=
  if (cutB 58 l).2.2 = true ∧ fieldL (cutB 58 l).1 (trimB (cutB 58 l).2.1) = true then (mkB (cutB 58 l).1, mkB (trimB (cutB 58 l).2.1), true) else ((⟨#[]⟩ : ByteArray), (⟨#[]⟩ : ByteArray), false)
theorem fieldL_long (n v : List UInt8) (h : 40 < n.length) : fieldL n v = false := by
  simp [fieldL, show ¬ n.length ≤ 40 by omega]
theorem size_u8 (b : UInt8) : (b.toNat : Int) = 58 ↔ b = 58 := by
  rw [← UInt8.toNat_inj]
  constructor
  · intro h; show b.toNat = 58; omega
  · intro h; have : b.toNat = 58 := h; omega
theorem specReadField_go : ∀ (r pre : List UInt8), (∀ b ∈ pre, b ≠ 58) → pre.length ≤ 41 → (pre ++ r).length ≤ 1048576 →
    Ev (fun k => spec_ReadField.l0 k (mkB (pre ++ r)) pre.length) (readFieldL (pre ++ r))
  | [], pre, hp, h41, hl => by
    refine Ev.step (f := fun k => spec_ReadField.j1 k (mkB (pre ++ [])) pre.length false) (fun k => by simp only [spec_ReadField.l0]; rw [if_neg (by rw [size_mk]; simp)]) ?_
    refine Ev.step (f := fun _ => some ((⟨#[]⟩ : ByteArray), (⟨#[]⟩ : ByteArray), false)) (fun k => by simp [spec_ReadField.j1]) ?_
    have : readFieldL (pre ++ []) = ((⟨#[]⟩ : ByteArray), (⟨#[]⟩ : ByteArray), false) := by
      unfold readFieldL
      rw [cutB_app 58 pre [] hp, if_neg (by simp [cutB])]
    rw [this]; exact Ev.now _
  | b :: r, pre, hp, h41, hl => by
    have hl2 := hl
    simp at hl2
    refine Ev.step (f := fun k => spec_ReadField.j1 k (mkB (pre ++ b :: r)) pre.length (decide ((pre.length : Int) ≤ 40))) (fun k => by simp only [spec_ReadField.l0]; rw [if_pos (size_lt_mid ..)]) ?_
    by_cases h40 : pre.length ≤ 40
    · have hd : decide ((pre.length : Int) ≤ 40) = true := decide_eq_true (by omega)
      simp only [hd]
      have hw : wrap64 ((pre.length : Int) + 1) = (pre.length : Int) + 1 := wrap_id (by omega) (by omega)
      by_cases hb : b = 58
      · subst hb
        have hx1 : (mkB (pre ++ 58 :: r)).extract ((pre.length : Int) + 1).toNat (mkB (pre ++ 58 :: r)).size = mkB r := by
          rw [extract_mk, size_mk]
          congr 1
          have e : ((pre.length : Int) + 1).toNat = pre.length + 1 := by omega
          rw [e, drop_mid, List.take_of_length_le]
          simp <;> omega
        have hx2 : (mkB (pre ++ 58 :: r)).extract 0 ((pre.length : Int)).toNat = mkB pre := by
          rw [extract_mk]; simp
        refine Ev.step (f := fun k => (spec_Trim.f k (mkB r)).bind fun t => (spec_FieldOk.f k (mkB pre) t).bind fun q => if q = true then some (mkB pre, t, true) else some ((⟨#[]⟩ : ByteArray), (⟨#[]⟩ : ByteArray), false)) (fun k => ?_) ?_
        · simp only [spec_ReadField.j1, if_true]
          rw [if_pos (by omega), if_pos (size_lt_mid ..), bt_mid, if_pos (by rfl), if_pos (by rw [size_mk]; simp <;> omega), hw, if_pos (by omega), if_pos (by rw [size_mk]; simp <;> omega), hx1, hx2]
        refine (specTrim_is (mkB r) (by rw [size_mk]; omega)).bind ?_
        refine (specFieldOk_is _ _).bind ?_
        rw [bl_mk, bl_mk, bl_mk]
        have hc : cutB 58 (pre ++ 58 :: r) = (pre, r, true) := by rw [cutB_app 58 pre _ hp]; simp [cutB]
        unfold readFieldL
        rw [hc]
        cases hf : fieldL pre (trimB r)
        · simpa using Ev.now _
        · simpa using Ev.now _
      · have ih := specReadField_go r (pre ++ [b]) (by intro x hx; rcases List.mem_append.1 hx with h | h; exact hp x h; simp at h; subst h; exact hb) (by simp; omega) (by rw [← app_mid]; exact hl)
        rw [← app_mid, len_snoc] at ih
        refine Ev.step (fun k => ?_) ih
        simp only [spec_ReadField.j1, if_true]
        rw [if_pos (by omega), if_pos (size_lt_mid ..), bt_mid, if_neg (fun h => hb ((size_u8 b).1 h)), hw]
    · have hd : decide ((pre.length : Int) ≤ 40) = false := decide_eq_false (by omega)
      simp only [hd]
      refine Ev.step (f := fun _ => some ((⟨#[]⟩ : ByteArray), (⟨#[]⟩ : ByteArray), false)) (fun k => by simp [spec_ReadField.j1]) ?_
      have : readFieldL (pre ++ b :: r) = ((⟨#[]⟩ : ByteArray), (⟨#[]⟩ : ByteArray), false) := by
        unfold readFieldL
        rw [cutB_app 58 pre _ hp]
        simp only
        rw [fieldL_long _ _ (by simp; omega), if_neg (by simp)]
      rw [this]; exact Ev.now _
theorem specReadField_is (s : ByteArray) (hs : s.size ≤ 1048576) : Ev (fun k => spec_ReadField.f k s) (readFieldL (bl s)) := by
  have := specReadField_go (bl s) [] (by simp) (by simp) (by simpa [size_bl] using hs)
  simpa [mk_bl, spec_ReadField.f] using this
theorem stringsCut_is (s : ByteArray) (c : UInt8) (hs : s.size ≤ 1048576) : strings_Cut.f s (⟨#[c]⟩ : ByteArray) = some (mkB (cutB c (bl s)).1, mkB (cutB c (bl s)).2.1, (cutB c (bl s)).2.2) := by
  unfold strings_Cut.f
  rw [if_pos (by omega)]
  have : Lib.cut s.data.toList (⟨#[c]⟩ : ByteArray).data.toList = cutB c (bl s) := cut_is c (bl s)
  rw [this]; rfl
theorem implReadField_is (s : ByteArray) (hs : s.size ≤ 1048576) : Ev (fun k => impl_ReadField.f k s) (readFieldL (bl s)) := by
  have hlen := cutB_len 58 (bl s)
  rw [size_bl] at hlen
  unfold impl_ReadField.f
  rw [stringsCut_is s 58 hs]
  simp only [Option.bind_some]
  refine (implTrim_is _ (by rw [size_mk]; omega)).bind ?_
  unfold readFieldL
  rw [bl_mk]
  cases hc : (cutB 58 (bl s)).2.2
  · simpa using Ev.now ((⟨#[]⟩ : ByteArray), (⟨#[]⟩ : ByteArray), false)
  · simp only [if_true]
    refine (implFieldOk_is _ _).bind ?_
    rw [bl_mk, bl_mk]
    cases hf : fieldL (cutB 58 (bl s)).1 (trimB (cutB 58 (bl s)).2.1)
    · simpa using Ev.now _
    · simpa using Ev.now _

/-! #### Lines -/
/-- A line up to its end, and how it ends: 0 with CRLF, 1 not at all, 2 with another end. -/
def scanL : List UInt8 → List UInt8 × Nat
  | [] => ([], 1)
  | b :: r => if b = 10 then ([], 2) else if b = 13 then (match r with | [] => ([], 1) | c :: _ => if c = 10 then ([], 0) else ([], 2)) else if (scanL r).2 = 0 then (b :: (scanL r).1, 0) else ([], (scanL r).2)
theorem u8_10 (b : UInt8) : (b.toNat : Int) = 10 ↔ b = 10 := by rw [← UInt8.toNat_inj]; show _ ↔ b.toNat = 10; omega
theorem u8_13 (b : UInt8) : (b.toNat : Int) = 13 ↔ b = 13 := by rw [← UInt8.toNat_inj]; show _ ↔ b.toNat = 13; omega
theorem scanL_other {b : UInt8} (r : List UInt8) (h1 : ¬ b = 10) (h2 : ¬ b = 13) : scanL (b :: r) = if (scanL r).2 = 0 then (b :: (scanL r).1, 0) else ([], (scanL r).2) := by
  cases r <;> simp [scanL, h1, h2]
theorem scanL_len : ∀ r : List UInt8, (scanL r).2 = 0 → (scanL r).1.length + 2 ≤ r.length
  | [], h => by simp [scanL] at h
  | b :: r, h => by
    have ih := scanL_len r
    unfold scanL at h ⊢
    by_cases h1 : b = 10
    · simp [h1] at h
    by_cases h2 : b = 13
    · rw [if_neg h1, if_pos h2] at h ⊢
      cases r with
      | nil => simp at h
      | cons c r =>
        by_cases h3 : c = 10
        · simp [h3]
        · simp [h3] at h
    · rw [if_neg h1, if_neg h2] at h ⊢
      by_cases h3 : (scanL r).2 = 0
      · rw [if_pos h3]; have := ih h3; simp; omega
      · rw [if_neg h3] at h; exact absurd h h3
def takeLineL (t : List UInt8) (at_ : Nat) : ByteArray × ByteArray × Int × Int :=
  if (scanL (t.drop at_)).2 = 0 then (mkB (scanL (t.drop at_)).1, mkB t, ((at_ + (scanL (t.drop at_)).1.length + 2 : Nat) : Int), 0) else ((⟨#[]⟩ : ByteArray), (⟨#[]⟩ : ByteArray), 0, ((scanL (t.drop at_)).2 : Int))
theorem specTakeLine_go : ∀ (r mid pre : List UInt8), (pre ++ (mid ++ r)).length ≤ 9223372036854775000 →
    Ev (fun k => spec_TakeLine.l0 k ((pre.length : Int) + (mid.length : Int)) (mkB (pre ++ (mid ++ r))) pre.length)
      (if (scanL r).2 = 0 then (mkB (mid ++ (scanL r).1), mkB (pre ++ (mid ++ r)), ((pre.length + (mid.length + (scanL r).1.length) + 2 : Nat) : Int), 0) else ((⟨#[]⟩ : ByteArray), (⟨#[]⟩ : ByteArray), 0, ((scanL r).2 : Int)))
  | [], mid, pre, hl => by
    refine Ev.step (f := fun _ => some ((⟨#[]⟩ : ByteArray), (⟨#[]⟩ : ByteArray), 0, 1)) (fun k => ?_) (by simpa [scanL] using Ev.now _)
    simp only [spec_TakeLine.l0]
    rw [if_neg (by rw [size_mk]; simp)]
  | b :: r, mid, pre, hl => by
    have hl2 := hl
    simp at hl2
    have hlt : (pre.length : Int) + (mid.length : Int) < ((mkB (pre ++ (mid ++ b :: r))).size : Int) := by rw [size_mk]; simp; omega
    have hb := bt_mid2 pre mid b r _ rfl
    have hw : wrap64 ((pre.length : Int) + (mid.length : Int) + 1) = (pre.length : Int) + (mid.length : Int) + 1 := wrap_id (by omega) (by omega)
    have hw2 : wrap64 ((pre.length : Int) + (mid.length : Int) + 2) = (pre.length : Int) + (mid.length : Int) + 2 := wrap_id (by omega) (by omega)
    by_cases h1 : b = 10
    · subst h1
      refine Ev.step (f := fun _ => some ((⟨#[]⟩ : ByteArray), (⟨#[]⟩ : ByteArray), 0, 2)) (fun k => ?_) (by simpa [scanL] using Ev.now _)
      simp only [spec_TakeLine.l0]
      rw [if_pos hlt, if_pos (by omega), hb, if_pos (by rfl)]
    by_cases h2 : b = 13
    · subst h2
      cases r with
      | nil =>
        refine Ev.step (f := fun _ => some ((⟨#[]⟩ : ByteArray), (⟨#[]⟩ : ByteArray), 0, 1)) (fun k => ?_) (by simpa [scanL] using Ev.now _)
        simp only [spec_TakeLine.l0]
        rw [if_pos hlt, if_pos (by omega), hb, if_neg (by decide), if_pos (by rfl), hw, if_pos (by rw [size_mk]; simp; omega)]
      | cons c r =>
        have hc := bt_mid2 pre (mid ++ [13]) c r ((pre.length : Int) + (mid.length : Int) + 1) (by simp; omega)
        have e : pre ++ (mid ++ 13 :: c :: r) = pre ++ ((mid ++ [13]) ++ c :: r) := by simp
        rw [← e] at hc
        have hne : ¬ (pre.length : Int) + (mid.length : Int) + 1 = ((mkB (pre ++ (mid ++ 13 :: c :: r))).size : Int) := by rw [size_mk]; simp; omega
        have hlt2 : (pre.length : Int) + (mid.length : Int) + 1 < ((mkB (pre ++ (mid ++ 13 :: c :: r))).size : Int) := by rw [size_mk]; simp; omega
        by_cases h3 : c = 10
        · subst h3
          have hx : (mkB (pre ++ (mid ++ 13 :: 10 :: r))).extract (pre.length : Int).toNat ((pre.length : Int) + (mid.length : Int)).toNat = mkB mid := by
            rw [extract_mk, show ((pre.length : Int) + (mid.length : Int)).toNat = pre.length + mid.length by omega, Int.toNat_natCast, take_mid]
          refine Ev.step (f := fun _ => some (mkB mid, mkB (pre ++ (mid ++ 13 :: 10 :: r)), (pre.length : Int) + (mid.length : Int) + 2, 0)) (fun k => ?_) (by simpa [scanL, Int.add_assoc] using Ev.now _)
          simp only [spec_TakeLine.l0]
          rw [if_pos hlt, if_pos (by omega), hb, if_neg (by decide), if_pos (by rfl), hw, if_neg hne, if_pos (by omega), if_pos hlt2, hc, if_pos (by rfl), if_pos (by omega), if_pos (by omega), if_pos (by omega), hx, hw2]
        · refine Ev.step (f := fun _ => some ((⟨#[]⟩ : ByteArray), (⟨#[]⟩ : ByteArray), 0, 2)) (fun k => ?_) (by simpa [scanL, h3] using Ev.now _)
          simp only [spec_TakeLine.l0]
          rw [if_pos hlt, if_pos (by omega), hb, if_neg (by decide), if_pos (by rfl), hw, if_neg hne, if_pos (by omega), if_pos hlt2, hc, if_neg (fun h => h3 ((u8_10 c).1 h))]
    · have ih := specTakeLine_go r (mid ++ [b]) pre (by simp; omega)
      have e : pre ++ (mid ++ [b] ++ r) = pre ++ (mid ++ b :: r) := by simp
      have e2 : (pre.length : Int) + ((mid ++ [b]).length : Int) = (pre.length : Int) + (mid.length : Int) + 1 := by simp; omega
      rw [e, e2] at ih
      have hs : scanL (b :: r) = if (scanL r).2 = 0 then (b :: (scanL r).1, 0) else ([], (scanL r).2) := scanL_other r h1 h2
      have er : (if (scanL (b :: r)).2 = 0 then (mkB (mid ++ (scanL (b :: r)).1), mkB (pre ++ (mid ++ b :: r)), ((pre.length + (mid.length + (scanL (b :: r)).1.length) + 2 : Nat) : Int), (0 : Int)) else ((⟨#[]⟩ : ByteArray), (⟨#[]⟩ : ByteArray), 0, ((scanL (b :: r)).2 : Int))) = (if (scanL r).2 = 0 then (mkB (mid ++ [b] ++ (scanL r).1), mkB (pre ++ (mid ++ b :: r)), ((pre.length + ((mid ++ [b]).length + (scanL r).1.length) + 2 : Nat) : Int), 0) else ((⟨#[]⟩ : ByteArray), (⟨#[]⟩ : ByteArray), 0, ((scanL r).2 : Int))) := by
        rw [hs]
        by_cases hz : (scanL r).2 = 0
        · simp [hz]; omega
        · simp [hz]
      rw [er]
      refine Ev.step (fun k => ?_) ih
      simp only [spec_TakeLine.l0]
      rw [if_pos hlt, if_pos (by omega), hb, if_neg (fun h => h1 ((u8_10 b).1 h)), if_neg (fun h => h2 ((u8_13 b).1 h)), hw]
theorem specCurOk_is (t : List UInt8) (at_ : Nat) (h : at_ ≤ t.length) : spec_CurOk.f (mkB t) (at_ : Int) = some true := by
  unfold spec_CurOk.f
  rw [if_pos (by omega), size_mk, decide_eq_true (by omega)]
theorem implCurOk_is (t : List UInt8) (at_ : Nat) (h : at_ ≤ t.length) : impl_CurOk.f (mkB t) (at_ : Int) = some true := by
  unfold impl_CurOk.f
  rw [within_is, size_mk, decide_eq_true (by omega), decide_eq_true (by omega)]; rfl
theorem specTakeLine_is (t : List UInt8) (at_ : Nat) (h : at_ ≤ t.length) (hl : t.length ≤ 9223372036854775000) : Ev (fun k => spec_TakeLine.f k (mkB t) (at_ : Int)) (takeLineL t at_) := by
  have hg := specTakeLine_go (t.drop at_) [] (t.take at_) (by simpa using hl)
  have e : (t.take at_).length = at_ := by rw [List.length_take]; omega
  simp only [List.nil_append, List.take_append_drop, e] at hg
  unfold spec_TakeLine.f
  rw [specCurOk_is t at_ h]
  simp only [Option.bind_some, if_true]
  simpa [takeLineL] using hg
theorem scan_index : ∀ r : List UInt8, (Lib.indexAny r [13, 10] = -1 ∧ scanL r = ([], 1)) ∨ (∃ (mid : List UInt8) (b : UInt8) (r' : List UInt8), r = mid ++ b :: r' ∧ Lib.indexAny r [13, 10] = (mid.length : Int) ∧ (b = 13 ∨ b = 10) ∧ scanL r = (if b = 10 then ([], 2) else match r' with | [] => ([], 1) | c :: _ => if c = 10 then (mid, 0) else ([], 2)))
  | [] => .inl ⟨rfl, rfl⟩
  | b :: r => by
    by_cases h1 : b = 10
    · subst h1; exact .inr ⟨[], 10, r, rfl, by simp [Lib.indexAny], .inr rfl, by simp [scanL]⟩
    by_cases h2 : b = 13
    · subst h2; exact .inr ⟨[], 13, r, rfl, by simp [Lib.indexAny], .inl rfl, by simp [scanL]⟩
    have hs : scanL (b :: r) = if (scanL r).2 = 0 then (b :: (scanL r).1, 0) else ([], (scanL r).2) := scanL_other r h1 h2
    have hi : Lib.indexAny (b :: r) [13, 10] = if Lib.indexAny r [13, 10] == -1 then -1 else Lib.indexAny r [13, 10] + 1 := by
      rw [Lib.indexAny, if_neg (by simp [h1, h2])]
    rcases scan_index r with ⟨a1, a2⟩ | ⟨mid, c, r', a1, a2, a3, a4⟩
    · exact .inl ⟨by rw [hi, a1]; rfl, by rw [hs, a2]; rfl⟩
    · refine .inr ⟨b :: mid, c, r', by rw [a1]; rfl, ?_, a3, ?_⟩
      · rw [hi, a2, if_neg (by simp <;> omega)]; simp
      · rw [hs, a4]
        rcases a3 with rfl | rfl
        · cases r' with
          | nil => simp
          | cons d r' => by_cases hd : d = 10 <;> simp [hd]
        · simp
theorem implTakeLine_is (t : List UInt8) (at_ : Nat) (h : at_ ≤ t.length) (hl : t.length ≤ 4294967280) : Ev (fun k => impl_TakeLine.f k (mkB t) (at_ : Int)) (takeLineL t at_) := by
  have hx : (mkB t).extract (at_ : Int).toNat (mkB t).size = mkB (t.drop at_) := by
    rw [extract_mk, Int.toNat_natCast, size_mk, List.take_of_length_le (by simp)]
  have hia : strings_IndexAny.f (mkB (t.drop at_)) (⟨#[13, 10]⟩ : ByteArray) = some (Lib.indexAny (t.drop at_) [13, 10]) := by
    unfold strings_IndexAny.f
    rw [if_pos ⟨by rw [size_mk]; simp; omega, rfl, by decide⟩]
    simp [mkB]
  unfold impl_TakeLine.f
  rw [implCurOk_is t at_ h]
  have hat : (at_ : Int) ≤ ((mkB t).size : Int) := by rw [size_mk]; omega
  simp only [Option.bind_some, if_true, hx, hia, if_pos (show (0 : Int) ≤ (at_ : Int) by omega), if_pos hat]
  have hdl : (t.drop at_).length = t.length - at_ := by simp
  generalize hr : t.drop at_ = r at hdl ⊢
  rcases scan_index r with ⟨a1, a2⟩ | ⟨mid, b, r', rfl, a2, a3, a4⟩
  · simp only [a1, if_pos (show (-1 : Int) < 0 by decide)]
    have er : takeLineL t at_ = ((⟨#[]⟩ : ByteArray), (⟨#[]⟩ : ByteArray), 0, 1) := by unfold takeLineL; rw [hr, a2]; rfl
    rw [er]
    exact Ev.step (f := fun _ => some ((⟨#[]⟩ : ByteArray), (⟨#[]⟩ : ByteArray), 0, 1)) (fun k => by simp only [impl_TakeLine.j0, if_true]) (Ev.now _)
  · simp only [a2, if_neg (show ¬ (mid.length : Int) < 0 by omega), if_pos (show (0 : Int) ≤ (mid.length : Int) by omega), if_pos (size_lt_mid mid b r'), bt_mid]
    have hlen := hdl
    simp at hlen
    have hw : wrap64 ((mid.length : Int) + 1) = (mid.length : Int) + 1 := wrap_id (by omega) (by omega)
    rcases a3 with rfl | rfl
    · simp only [if_pos (show (((13 : UInt8).toNat : Nat) : Int) = 13 from rfl)]
      rw [if_neg (by decide)] at a4
      cases r' with
      | nil =>
        have hd : ((mid.length : Int) == wrap64 (((mkB (mid ++ [13])).size : Int) - 1)) = true := by
          rw [beq_iff_eq, size_mk, wrap_id (by simp <;> omega) (by simp <;> omega)]; simp
        rw [hd]
        have er : takeLineL t at_ = ((⟨#[]⟩ : ByteArray), (⟨#[]⟩ : ByteArray), 0, 1) := by unfold takeLineL; rw [hr, a4]; rfl
        rw [er]
        exact Ev.step (f := fun _ => some ((⟨#[]⟩ : ByteArray), (⟨#[]⟩ : ByteArray), 0, 1)) (fun k => by simp only [impl_TakeLine.j0, if_true]) (Ev.now _)
      | cons c r' =>
        simp only [List.length_cons] at hlen
        have hd : ((mid.length : Int) == wrap64 (((mkB (mid ++ 13 :: c :: r')).size : Int) - 1)) = false := by
          rw [beq_eq_false_iff_ne, size_mk, wrap_id (by simp <;> omega) (by simp <;> omega)]; simp; omega
        have hc := bt_mid (mid ++ [13]) c r'
        rw [len_snoc, ← app_mid] at hc
        rw [hd]
        have hlt2 : (mid.length : Int) + 1 < ((mkB (mid ++ 13 :: c :: r')).size : Int) := by rw [size_mk]; simp; omega
        by_cases h3 : c = 10
        · subst h3
          have hx2 : (mkB (mid ++ 13 :: 10 :: r')).extract 0 (mid.length : Int).toNat = mkB mid := by rw [extract_mk]; simp
          have er : takeLineL t at_ = (mkB mid, mkB t, ((at_ + mid.length + 2 : Nat) : Int), 0) := by unfold takeLineL; rw [hr, a4]; rfl
          rw [er]
          refine Ev.step (f := fun _ => some (mkB mid, mkB t, ((at_ + mid.length + 2 : Nat) : Int), 0)) (fun k => ?_) (Ev.now _)
          simp only [impl_TakeLine.j0, Bool.false_eq_true, if_false]
          rw [if_pos (by omega), if_pos (size_lt_mid ..), bt_mid, if_pos (by rfl), hw, if_pos (by omega), if_pos hlt2, hc, if_pos (by rfl), if_pos (by have := size_lt_mid mid 13 (10 :: r'); omega), hx2, wrap_id (a := (at_ : Int) + (mid.length : Int)) (by omega) (by omega), wrap_id (by omega) (by omega)]
          congr 4
        · have er : takeLineL t at_ = ((⟨#[]⟩ : ByteArray), (⟨#[]⟩ : ByteArray), 0, 2) := by unfold takeLineL; rw [hr, a4]; simp [h3]
          rw [er]
          refine Ev.step (f := fun _ => some ((⟨#[]⟩ : ByteArray), (⟨#[]⟩ : ByteArray), 0, 2)) (fun k => ?_) (Ev.now _)
          simp only [impl_TakeLine.j0, Bool.false_eq_true, if_false]
          rw [if_pos (by omega), if_pos (size_lt_mid ..), bt_mid, if_pos (by rfl), hw, if_pos (by omega), if_pos hlt2, hc, if_neg (fun h => h3 ((u8_10 c).1 h))]
    · simp only [if_neg (show ¬ (((10 : UInt8).toNat : Nat) : Int) = 13 by decide)]
      have er : takeLineL t at_ = ((⟨#[]⟩ : ByteArray), (⟨#[]⟩ : ByteArray), 0, 2) := by unfold takeLineL; rw [hr, a4]; rfl
      rw [er]
      refine Ev.step (f := fun _ => some ((⟨#[]⟩ : ByteArray), (⟨#[]⟩ : ByteArray), 0, 2)) (fun k => ?_) (Ev.now _)
      simp only [impl_TakeLine.j0, Bool.false_eq_true, if_false]
      rw [if_pos (by omega), if_pos (size_lt_mid ..), bt_mid, if_neg (by decide)]

/-! #### HexRead -/
/-- What a hexadecimal digit is worth, -1 for another byte. -/
def hexV (b : UInt8) : Int := if digB b = true then (b.toNat : Int) - 48 else if 97 ≤ b.toNat ∧ b.toNat ≤ 102 then (b.toNat : Int) - 87 else if 65 ≤ b.toNat ∧ b.toNat ≤ 70 then (b.toNat : Int) - 55 else -1
def readHexL : List UInt8 → Int → Int × Bool
  | [], n => (n, true)
  | b :: r, n => if hexV b < 0 then (0, false) else readHexL r (16 * n + hexV b)
def hexBnd : Nat → Int
  | 0 => 268435456
  | m + 1 => hexBnd m / 16
theorem hexBnd_le : ∀ m, 0 ≤ hexBnd m ∧ hexBnd m ≤ 268435456
  | 0 => by simp [hexBnd]
  | m + 1 => by have := hexBnd_le m; unfold hexBnd; omega
theorem hexV_lt (b : UInt8) : hexV b < 16 := by
  unfold hexV digB
  by_cases h : 48 ≤ b.toNat ∧ b.toNat ≤ 57
  · simp [h]; omega
  · rw [if_neg (by simp; omega)]; split
    · omega
    · split <;> omega
theorem specHexLow (b : UInt8) : ∃ c : Int, spec_l1lower.f (b.toNat : Int) = some c ∧ 0 ≤ c ∧ c < 256 ∧ (65 ≤ b.toNat ∧ b.toNat ≤ 90 → c = (b.toNat : Int) + 32) ∧ (¬ (65 ≤ b.toNat ∧ b.toNat ≤ 90) → c = (b.toNat : Int)) := by
  have := u8_lt b
  unfold spec_l1lower.f
  by_cases h1 : 65 ≤ b.toNat
  · rw [if_pos (by omega)]
    by_cases h2 : b.toNat ≤ 90
    · rw [if_pos (by omega)]; exact ⟨_, rfl, by omega, by omega, fun _ => by omega, fun h => absurd ⟨h1, h2⟩ h⟩
    · rw [if_neg (by omega)]; exact ⟨_, rfl, by omega, by omega, fun h => absurd h.2 h2, fun _ => rfl⟩
  · rw [if_neg (by omega)]; exact ⟨_, rfl, by omega, by omega, fun h => absurd h.1 h1, fun _ => rfl⟩
theorem l1digit_at (c : Int) : spec_l1digit.f c = some (decide (48 ≤ c) && decide (c ≤ 57)) := by
  unfold spec_l1digit.f
  by_cases h : c ≥ 48
  · rw [if_pos h, decide_eq_true (show 48 ≤ c from h)]; rfl
  · rw [if_neg h, decide_eq_false (show ¬ 48 ≤ c from h)]; rfl
theorem specReadHex_go : ∀ (r pre : List UInt8) (n : Int), 0 ≤ n → n < hexBnd r.length → (pre ++ r).length ≤ 1000 → Ev (fun k => spec_ReadHex.l0 k (mkB (pre ++ r)) n pre.length) (readHexL r n)
  | [], pre, n, _, _, _ => Ev.step (f := fun _ => some (n, true)) (fun k => by simp only [spec_ReadHex.l0]; rw [if_neg (by rw [size_mk]; simp)]) (Ev.now _)
  | b :: r, pre, n, h0, h1, hl => by
    have hb := hexBnd_le r.length
    have hv := hexV_lt b
    have h1' : n < hexBnd r.length / 16 := h1
    simp at hl
    have ih := specReadHex_go r (pre ++ [b]) (16 * n + hexV b)
    rw [← app_mid, len_snoc] at ih
    have hw : wrap64 ((pre.length : Int) + 1) = (pre.length : Int) + 1 := wrap_id (by omega) (by omega)
    have hw0 : wrap64 (n * 16) = n * 16 := wrap_id (by omega) (by omega)
    obtain ⟨c, hc, c0, c1, c2, c3⟩ := specHexLow b
    have hcell : ∀ k, spec_ReadHex.l0 (k + 1) (mkB (pre ++ b :: r)) n pre.length = if hexV b < 0 then some (0, false) else spec_ReadHex.l0 k (mkB (pre ++ b :: r)) (16 * n + hexV b) ((pre.length : Int) + 1) := by
      intro k
      simp only [spec_ReadHex.l0]
      rw [if_pos (size_lt_mid ..), if_pos (by omega), bt_mid, hc]
      simp only [Option.bind_some, l1digit_at, hw, hw0]
      by_cases hd : 48 ≤ c ∧ c ≤ 57
      · have hbd : 48 ≤ b.toNat ∧ b.toNat ≤ 57 := by
          by_cases hu : 65 ≤ b.toNat ∧ b.toNat ≤ 90
          · have := c2 hu; omega
          · have := c3 hu; omega
        have e := c3 (by omega)
        have hval : hexV b = c - 48 := by unfold hexV digB; rw [if_pos (by simp [hbd])]; omega
        rw [if_pos (by simp [hd]), if_neg (by omega), show (c - 48) % 256 = c - 48 by omega, wrap_id (by omega) (by omega), hval, show n * 16 + (c - 48) = 16 * n + (c - 48) by omega]
      · rw [if_neg (by simp; omega)]
        have hnd : digB b = false := by
          unfold digB
          by_cases hu : 65 ≤ b.toNat ∧ b.toNat ≤ 90
          · simp; omega
          · have := c3 hu; simp; omega
        by_cases h97 : c ≥ 97
        · rw [if_pos h97]
          by_cases h102 : c ≤ 102
          · have hval : hexV b = c - 87 := by
              unfold hexV; rw [hnd, if_neg (by decide)]
              by_cases hu : 65 ≤ b.toNat ∧ b.toNat ≤ 90
              · have := c2 hu; rw [if_neg (by omega), if_pos (by omega)]; omega
              · have := c3 hu; rw [if_pos (by omega)]; omega
            rw [if_pos h102, if_neg (by omega), show (c - 97) % 256 = c - 97 by omega, wrap_id (a := n * 16 + (c - 97)) (by omega) (by omega), wrap_id (by omega) (by omega), hval, show n * 16 + (c - 97) + 10 = 16 * n + (c - 87) by omega]
          · have hval : hexV b = -1 := by
              unfold hexV; rw [hnd, if_neg (by decide)]
              by_cases hu : 65 ≤ b.toNat ∧ b.toNat ≤ 90
              · have := c2 hu; rw [if_neg (by omega), if_neg (by omega)]
              · have := c3 hu; rw [if_neg (by omega), if_neg (by omega)]
            rw [if_neg h102, hval, if_pos (by decide)]
        · have hval : hexV b = -1 := by
            unfold hexV; rw [hnd, if_neg (by decide)]
            by_cases hu : 65 ≤ b.toNat ∧ b.toNat ≤ 90
            · have := c2 hu; omega
            · have := c3 hu; rw [if_neg (by omega), if_neg (by omega)]
          rw [if_neg h97, hval, if_pos (by decide)]
    by_cases hneg : hexV b < 0
    · refine Ev.step (f := fun _ => some (0, false)) (fun k => by rw [hcell, if_pos hneg]) (by simpa [readHexL, hneg] using Ev.now _)
    · have er : readHexL (b :: r) n = readHexL r (16 * n + hexV b) := by simp [readHexL, hneg]
      rw [er]
      exact Ev.step (fun k => by rw [hcell, if_neg hneg]) (ih (by omega) (by omega) (by simp; omega))
def readHexT (l : List UInt8) : Int × Bool := if l.length = 0 ∨ 7 < l.length then (0, false) else readHexL l 0
theorem hexBnd_pos (m : Nat) (h : m ≤ 7) : 0 < hexBnd m := by
  have : m = 0 ∨ m = 1 ∨ m = 2 ∨ m = 3 ∨ m = 4 ∨ m = 5 ∨ m = 6 ∨ m = 7 := by omega
  rcases this with rfl | rfl | rfl | rfl | rfl | rfl | rfl | rfl <;> decide
theorem specReadHex_is (l : List UInt8) : Ev (fun k => spec_ReadHex.f k (mkB l)) (readHexT l) := by
  have hj : ∀ l : List UInt8, Ev (fun k => spec_ReadHex.j0 k (mkB l) true) ((0 : Int), false) := fun l => Ev.step (f := fun _ => some (0, false)) (fun k => by simp only [spec_ReadHex.j0, if_true]) (Ev.now _)
  unfold spec_ReadHex.f readHexT
  by_cases h0 : l.length = 0
  · simp only [if_pos (show ((mkB l).size : Int) = 0 by rw [size_mk]; omega), if_pos (show l.length = 0 ∨ 7 < l.length from .inl h0)]
    exact hj l
  · simp only [if_neg (show ¬ ((mkB l).size : Int) = 0 by rw [size_mk]; omega)]
    by_cases h7 : 7 < l.length
    · simp only [decide_eq_true (show ((mkB l).size : Int) > 7 by rw [size_mk]; omega), if_pos (show l.length = 0 ∨ 7 < l.length from .inr h7)]
      exact hj l
    · have hg := specReadHex_go l [] 0 (by omega) (hexBnd_pos _ (by omega)) (by simp; omega)
      simp only [decide_eq_false (show ¬ ((mkB l).size : Int) > 7 by rw [size_mk]; omega), if_neg (show ¬ (l.length = 0 ∨ 7 < l.length) by omega)]
      refine Ev.step (f := fun k => spec_ReadHex.l0 k (mkB l) 0 0) (fun k => by simp only [spec_ReadHex.j0, Bool.false_eq_true, if_false]) ?_
      simpa using hg
theorem hexOf_is (b : UInt8) : Ev (fun k => impl_hexOf.f k (b.toNat : Int)) (hexV b) := by
  have hlt := u8_lt b
  unfold impl_hexOf.f
  rw [isDigit_is]
  simp only [Option.bind_some]
  unfold hexV
  cases hd : digB b
  · have hnd : ¬ (48 ≤ b.toNat ∧ b.toNat ≤ 57) := by intro h; rw [digB] at hd; simp [h] at hd
    simp only [Bool.false_eq_true, if_false]
    have hf : Ev (fun k => impl_hexOf.j0 k (b.toNat : Int) false) (if 65 ≤ b.toNat ∧ b.toNat ≤ 70 then (b.toNat : Int) - 55 else -1) := by
      refine Ev.step (f := fun _ => some (if 65 ≤ b.toNat ∧ b.toNat ≤ 70 then (b.toNat : Int) - 55 else -1)) (fun k => ?_) (Ev.now _)
      simp only [impl_hexOf.j0, Bool.false_eq_true, if_false]
      by_cases h1 : 65 ≤ b.toNat
      · rw [if_pos (by omega)]
        by_cases h2 : b.toNat ≤ 70
        · rw [if_pos (by omega), if_pos ⟨h1, h2⟩]; congr 1; omega
        · rw [if_neg (by omega), if_neg (by omega)]
      · rw [if_neg (by omega), if_neg (by omega)]
    by_cases h1 : 97 ≤ b.toNat
    · simp only [if_pos (show (b.toNat : Int) ≥ 97 by omega)]
      by_cases h2 : b.toNat ≤ 102
      · simp only [decide_eq_true (show (b.toNat : Int) ≤ 102 by omega), if_pos (show 97 ≤ b.toNat ∧ b.toNat ≤ 102 from ⟨h1, h2⟩)]
        refine Ev.step (f := fun _ => some ((b.toNat : Int) - 87)) (fun k => ?_) (Ev.now _)
        simp only [impl_hexOf.j0, if_true]; congr 1; omega
      · simp only [decide_eq_false (show ¬ (b.toNat : Int) ≤ 102 by omega), if_neg (show ¬ (97 ≤ b.toNat ∧ b.toNat ≤ 102) by omega)]
        exact hf
    · simp only [if_neg (show ¬ (b.toNat : Int) ≥ 97 by omega), if_neg (show ¬ (97 ≤ b.toNat ∧ b.toNat ≤ 102) by omega)]
      exact hf
  · have hdd : 48 ≤ b.toNat ∧ b.toNat ≤ 57 := by simpa [digB] using hd
    simp only [if_true]
    rw [show ((b.toNat : Int) - 48) % 256 = (b.toNat : Int) - 48 by omega]
    exact Ev.now _
theorem implReadHex_go : ∀ (r pre : List UInt8) (n : Int), 0 ≤ n → n < hexBnd r.length → (pre ++ r).length ≤ 1000 → Ev (fun k => impl_ReadHex.l0 k (mkB (pre ++ r)) n pre.length) (readHexL r n)
  | [], pre, n, _, _, _ => Ev.step (f := fun _ => some (n, true)) (fun k => by simp only [impl_ReadHex.l0]; rw [if_neg (by rw [size_mk]; simp)]) (Ev.now _)
  | b :: r, pre, n, h0, h1, hl => by
    have hb := hexBnd_le r.length
    have hv := hexV_lt b
    have h1' : n < hexBnd r.length / 16 := h1
    simp at hl
    have ih := implReadHex_go r (pre ++ [b]) (16 * n + hexV b)
    rw [← app_mid, len_snoc] at ih
    have hw : wrap64 ((pre.length : Int) + 1) = (pre.length : Int) + 1 := wrap_id (by omega) (by omega)
    have hw0 : wrap64 (16 * n) = 16 * n := wrap_id (by omega) (by omega)
    refine Ev.step (f := fun k => (impl_hexOf.f k (b.toNat : Int)).bind fun t => if t < 0 then some (0, false) else impl_ReadHex.l0 k (mkB (pre ++ b :: r)) (wrap64 (16 * n + t)) ((pre.length : Int) + 1)) (fun k => ?_) ?_
    · simp only [impl_ReadHex.l0]
      rw [if_pos (size_lt_mid ..), if_pos (by omega), bt_mid, hw, hw0]
    refine (hexOf_is b).bind ?_
    by_cases hneg : hexV b < 0
    · simp only [if_pos hneg]; simpa [readHexL, hneg] using Ev.now _
    · have er : readHexL (b :: r) n = readHexL r (16 * n + hexV b) := by simp [readHexL, hneg]
      rw [er]
      simp only [if_neg hneg]
      rw [wrap_id (by omega) (by omega)]
      exact ih (by omega) (by omega) (by simp; omega)
theorem implReadHex_is (l : List UInt8) : Ev (fun k => impl_ReadHex.f k (mkB l)) (readHexT l) := by
  unfold impl_ReadHex.f readHexT
  rw [within_is, size_mk]
  simp only [Option.bind_some]
  by_cases h : l.length = 0 ∨ 7 < l.length
  · have hf : (decide ((1 : Int) ≤ (l.length : Int)) && decide ((l.length : Int) ≤ 7)) = false := by
      rcases h with h | h
      · rw [decide_eq_false (show ¬ (1 : Int) ≤ (l.length : Int) by omega)]; rfl
      · rw [decide_eq_false (show ¬ (l.length : Int) ≤ 7 by omega), Bool.and_false]
    simp only [hf, if_pos h, Bool.false_eq_true, if_false]
    exact Ev.now _
  · have hg := implReadHex_go l [] 0 (by omega) (hexBnd_pos _ (by omega)) (by simp; omega)
    simp only [decide_eq_true (show (1 : Int) ≤ (l.length : Int) by omega), decide_eq_true (show (l.length : Int) ≤ 7 by omega), if_neg h, Bool.and_self, if_true]
    simpa using hg
theorem readHexL_bnd : ∀ (r : List UInt8) (n : Int), 0 ≤ n → n < hexBnd r.length → 0 ≤ (readHexL r n).1 ∧ (readHexL r n).1 ≤ 268435455
  | [], n, h0, h1 => by simp [readHexL, hexBnd] at h1 ⊢; omega
  | b :: r, n, h0, h1 => by
    have hv := hexV_lt b
    have h1' : n < hexBnd r.length / 16 := h1
    unfold readHexL
    by_cases hneg : hexV b < 0
    · rw [if_pos hneg]; simp
    · rw [if_neg hneg]; exact readHexL_bnd r _ (by omega) (by omega)
theorem readHexT_bnd (l : List UInt8) : 0 ≤ (readHexT l).1 ∧ (readHexT l).1 ≤ 268435455 := by
  unfold readHexT
  by_cases h : l.length = 0 ∨ 7 < l.length
  · rw [if_pos h]; simp
  · rw [if_neg h]; exact readHexL_bnd l 0 (by omega) (hexBnd_pos _ (by omega))

/-! #### Upto -/
theorem u8_nat (b c : UInt8) : (b.toNat : Int) = (c.toNat : Int) ↔ b = c := by rw [← UInt8.toNat_inj]; omega
theorem upto_go (c : UInt8) : ∀ (r pre : List UInt8), (∀ b ∈ pre, b ≠ c) → (pre ++ r).length ≤ 9223372036854775806 → Ev (fun k => spec_l6upto.l0 k (mkB (pre ++ r)) (c.toNat : Int) pre.length) (mkB (cutB c (pre ++ r)).1)
  | [], pre, hp, hl => by
    have e : (cutB c (pre ++ [])).1 = pre ++ [] := by rw [cutB_app c pre [] hp]; simp [cutB]
    rw [e]
    exact Ev.step (f := fun _ => some (mkB (pre ++ []))) (fun k => by simp only [spec_l6upto.l0]; rw [if_neg (by rw [size_mk]; simp)]) (Ev.now _)
  | b :: r, pre, hp, hl => by
    simp at hl
    by_cases h : b = c
    · subst h
      have e : (cutB b (pre ++ b :: r)).1 = pre := by rw [cutB_app b pre _ hp]; simp [cutB]
      rw [e]
      refine Ev.step (f := fun _ => some (mkB pre)) (fun k => ?_) (Ev.now _)
      simp only [spec_l6upto.l0]
      rw [if_pos (size_lt_mid ..), if_pos (by omega), bt_mid, if_pos rfl, if_pos (by have := size_lt_mid pre b r; omega), extract_mk]
      simp
    · have ih := upto_go c r (pre ++ [b]) (by intro x hx; rcases List.mem_append.1 hx with h' | h'; exact hp x h'; simp at h'; subst h'; exact h) (by simp; omega)
      rw [← app_mid, len_snoc] at ih
      refine Ev.step (fun k => ?_) ih
      simp only [spec_l6upto.l0]
      rw [if_pos (size_lt_mid ..), if_pos (by omega), bt_mid, if_neg (fun e => h ((u8_nat b c).1 e)), wrap_id (by omega) (by omega)]
theorem upto_is (c : UInt8) (s : ByteArray) (h : s.size ≤ 9223372036854775806) : Ev (fun k => spec_l6upto.f k s (c.toNat : Int)) (mkB (cutB c (bl s)).1) := by
  have := upto_go c (bl s) [] (by simp) (by simpa [size_bl] using h)
  simpa [mk_bl, spec_l6upto.f] using this

/-! #### TakeN -/
/-- So many bytes at a place. -/
def takeNL (t : List UInt8) (at_ n : Nat) : ByteArray × ByteArray × Int × Bool :=
  if n ≤ t.length - at_ then (mkB ((t.drop at_).take n), mkB t, ((at_ + n : Nat) : Int), true) else ((⟨#[]⟩ : ByteArray), (⟨#[]⟩ : ByteArray), 0, false)
theorem specTakeN_is (t : List UInt8) (at_ n : Nat) (h : at_ ≤ t.length) (hl : t.length ≤ 9223372036854775000) (hn : n ≤ 1000000000) : spec_TakeN.f (mkB t) (at_ : Int) (n : Int) = some (takeNL t at_ n) := by
  unfold spec_TakeN.f takeNL
  rw [specCurOk_is t at_ h]
  simp only [Option.bind_some, if_true]
  have hw : wrap64 (((mkB t).size : Int) - (at_ : Int)) = ((t.length - at_ : Nat) : Int) := by rw [size_mk, wrap_id (by omega) (by omega)]; omega
  rw [if_neg (by omega), hw]
  by_cases hle : n ≤ t.length - at_
  · rw [if_neg (by omega), if_pos hle, if_pos (by omega), wrap_id (by omega) (by omega), if_pos (by omega), if_pos (by rw [size_mk]; omega), extract_mk, Int.toNat_natCast, show ((at_ : Int) + (n : Int)).toNat = at_ + n by omega, Nat.add_sub_cancel_left, show ((at_ + n : Nat) : Int) = (at_ : Int) + (n : Int) by omega]
  · rw [if_pos (by omega), if_neg hle]
theorem implTakeN_gen (s : ByteArray) (a n : Int) (h : impl_CurOk.f s a = some true) : impl_TakeN.f s a n = (impl_within.f n 0 (wrap64 ((s.size : Int) - a))).bind fun t => if t = true then (if 0 ≤ a then (if a ≤ (wrap64 (a + n)) then (if (wrap64 (a + n)) ≤ (s.size : Int) then (some (s.extract (a : Int).toNat ((wrap64 (a + n)) : Int).toNat, s, wrap64 (a + n), true)) else (none)) else (none)) else (none)) else (some ((⟨#[]⟩ : ByteArray), (⟨#[]⟩ : ByteArray), 0, false)) := by
  unfold impl_TakeN.f
  rw [h, Option.bind_some, if_pos rfl]
theorem implTakeN_is (t : List UInt8) (at_ n : Nat) (h : at_ ≤ t.length) (hl : t.length ≤ 9223372036854775000) (hn : n ≤ 1000000000) : impl_TakeN.f (mkB t) (at_ : Int) (n : Int) = some (takeNL t at_ n) := by
  have hw : wrap64 (((mkB t).size : Int) - (at_ : Int)) = ((t.length - at_ : Nat) : Int) := by rw [size_mk, wrap_id (by omega) (by omega)]; omega
  rw [implTakeN_gen _ _ _ (implCurOk_is t at_ h), hw, within_is, Option.bind_some]
  unfold takeNL
  by_cases hle : n ≤ t.length - at_
  · have d : (decide ((0 : Int) ≤ (n : Int)) && decide ((n : Int) ≤ ((t.length - at_ : Nat) : Int))) = true := by rw [decide_eq_true (show (0 : Int) ≤ (n : Int) by omega), decide_eq_true (show (n : Int) ≤ ((t.length - at_ : Nat) : Int) by omega)]; rfl
    rw [d, if_pos rfl, if_pos hle, if_pos (by omega), wrap_id (by omega) (by omega), if_pos (by omega), if_pos (by rw [size_mk]; omega), extract_mk, Int.toNat_natCast, show ((at_ : Int) + (n : Int)).toNat = at_ + n by omega, Nat.add_sub_cancel_left, show ((at_ + n : Nat) : Int) = (at_ : Int) + (n : Int) by omega]
  · have d : (decide ((0 : Int) ≤ (n : Int)) && decide ((n : Int) ≤ ((t.length - at_ : Nat) : Int))) = false := by rw [decide_eq_false (show ¬ (n : Int) ≤ ((t.length - at_ : Nat) : Int) by omega), Bool.and_false]
    rw [d, if_neg Bool.false_ne_true, if_neg hle]

/-- Trailer lines, an empty line, and the end. -/
def trailL (t : List UInt8) : Nat → Nat → Bool
  | 0, _ => false
  | c + 1, at_ => if (scanL (t.drop at_)).2 = 0 ∧ (scanL (t.drop at_)).1.length ≤ 300 then
      (if (scanL (t.drop at_)).1 = [] then decide (at_ + 2 = t.length) else if (readFieldL (scanL (t.drop at_)).1).2.2 = true then trailL t c (at_ + (scanL (t.drop at_)).1.length + 2) else false) else false
theorem takeLineL_ok {t : List UInt8} {at_ : Nat} (h : (scanL (t.drop at_)).2 = 0) : takeLineL t at_ = (mkB (scanL (t.drop at_)).1, mkB t, ((at_ + (scanL (t.drop at_)).1.length + 2 : Nat) : Int), 0) := by unfold takeLineL; rw [if_pos h]
theorem takeLineL_no {t : List UInt8} {at_ : Nat} (h : ¬ (scanL (t.drop at_)).2 = 0) : takeLineL t at_ = ((⟨#[]⟩ : ByteArray), (⟨#[]⟩ : ByteArray), 0, ((scanL (t.drop at_)).2 : Int)) := by unfold takeLineL; rw [if_neg h]
theorem scan_next {t : List UInt8} {at_ : Nat} (h : at_ ≤ t.length) (h0 : (scanL (t.drop at_)).2 = 0) : at_ + (scanL (t.drop at_)).1.length + 2 ≤ t.length := by
  have := scanL_len _ h0; rw [List.length_drop] at this; omega
theorem specTrail_go (t : List UInt8) (hl : t.length ≤ 1048576) : ∀ (c at_ : Nat) (x : Int), x = 21 - (c : Int) → c ≤ 21 → at_ ≤ t.length → Ev (fun k => spec_l6trailer.l0 k x (mkB t) (at_ : Int)) (trailL t c at_)
  | 0, at_, x, hx, hc, ha => Ev.step (f := fun _ => some false) (fun k => by simp only [spec_l6trailer.l0]; rw [if_neg (by omega)]) (Ev.now _)
  | c + 1, at_, x, hx, hc, ha => by
    refine Ev.step (f := fun k => (spec_TakeLine.f k (mkB t) (at_ : Int)).bind fun b => (if b.2.2.2 = 0 then (spec_l6trailer.j1 k x b.1 (decide ((b.1.size : Int) > 300)) b.2.1 b.2.2.1) else (spec_l6trailer.j1 k x b.1 true b.2.1 b.2.2.1))) (fun k => by simp only [spec_l6trailer.l0]; rw [if_pos (by omega)]) ?_
    refine (specTakeLine_is t at_ ha (by omega)).bind ?_
    have hbad : ∀ (q t : ByteArray) (a : Int), Ev (fun k => spec_l6trailer.j1 k x q true t a) false := fun q t a => Ev.step (f := fun _ => some false) (fun k => by simp only [spec_l6trailer.j1, if_true]) (Ev.now _)
    by_cases h0 : (scanL (t.drop at_)).2 = 0
    · rw [takeLineL_ok h0]
      have hn := scan_next ha h0
      unfold trailL
      simp only [if_true, size_mk, h0, true_and]
      by_cases h3 : (scanL (t.drop at_)).1.length ≤ 300
      · simp only [decide_eq_false (show ¬ ((scanL (t.drop at_)).1.length : Int) > 300 by omega), if_pos h3]
        by_cases he : (scanL (t.drop at_)).1 = []
        · rw [if_pos he]
          refine Ev.step (f := fun _ => some (decide (at_ + 2 = t.length))) (fun k => ?_) (Ev.now _)
          simp only [spec_l6trailer.j1, Bool.false_eq_true, if_false, toList_mk]
          rw [if_pos he, he, size_mk]
          congr 1
          rw [Bool.eq_iff_iff, beq_iff_eq, decide_eq_true_eq]; simp; omega
        · rw [if_neg he]
          refine Ev.step (f := fun k => (spec_ReadField.f k (mkB (scanL (t.drop at_)).1)).bind fun b => (if b.2.2 = true then (spec_l6trailer.l0 k (x + 1) (mkB t) ((at_ + (scanL (t.drop at_)).1.length + 2 : Nat) : Int)) else some false)) (fun k => ?_) ?_
          · simp only [spec_l6trailer.j1, Bool.false_eq_true, if_false, toList_mk]
            rw [if_neg he, wrap_id (by omega) (by omega)]
          refine (specReadField_is _ (by rw [size_mk]; omega)).bind ?_
          rw [bl_mk]
          cases hr : (readFieldL (scanL (t.drop at_)).1).2.2
          · simpa using Ev.now false
          · simp only [if_true]
            exact specTrail_go t hl c _ (x + 1) (by omega) (by omega) hn
      · simp only [decide_eq_true (show ((scanL (t.drop at_)).1.length : Int) > 300 by omega), if_neg h3]
        exact hbad _ _ _
    · rw [takeLineL_no h0]
      unfold trailL
      rw [if_neg (fun h => h0 h.1)]
      simp only [if_neg (show ¬ ((scanL (t.drop at_)).2 : Int) = 0 by omega)]
      exact hbad _ _ _
theorem implTrail_go (t : List UInt8) (hl : t.length ≤ 1048576) : ∀ (c at_ : Nat) (x : Int), x = 20 - (c : Int) → c ≤ 20 → at_ ≤ t.length → Ev (fun k => impl_trailed.l0 k x (mkB t) (at_ : Int)) (trailL t (c + 1) at_) := by
  intro c
  induction c with
  | zero => exact fun at_ x hx hc ha => go 0 at_ x hx hc ha (fun h => absurd rfl h)
  | succ c ih => exact fun at_ x hx hc ha => go (c + 1) at_ x hx hc ha (fun _ at' ha' => ih at' (x + 1) (by omega) (by omega) ha')
where
  go (c at_ : Nat) (x : Int) (hx : x = 20 - (c : Int)) (hc : c ≤ 20) (ha : at_ ≤ t.length) (ih : c ≠ 0 → ∀ at', at' ≤ t.length → Ev (fun k => impl_trailed.l0 k (x + 1) (mkB t) (at' : Int)) (trailL t c at')) : Ev (fun k => impl_trailed.l0 k x (mkB t) (at_ : Int)) (trailL t (c + 1) at_) := by
    refine Ev.step (f := fun k => (impl_TakeLine.f k (mkB t) (at_ : Int)).bind fun b => (if b.2.2.2 = 0 then (impl_trailed.j1 k x b.1 (decide ((b.1.size : Int) > 300)) b.2.1 b.2.2.1) else (impl_trailed.j1 k x b.1 true b.2.1 b.2.2.1))) (fun k => by simp only [impl_trailed.l0]) ?_
    refine (implTakeLine_is t at_ ha (by omega)).bind ?_
    have hbad : ∀ (q t : ByteArray) (a : Int), Ev (fun k => impl_trailed.j1 k x q true t a) false := fun q t a => Ev.step (f := fun _ => some false) (fun k => by simp only [impl_trailed.j1, if_true]) (Ev.now _)
    by_cases h0 : (scanL (t.drop at_)).2 = 0
    · rw [takeLineL_ok h0]
      have hn := scan_next ha h0
      rw [trailL]
      simp only [if_true, size_mk, h0, true_and]
      by_cases h3 : (scanL (t.drop at_)).1.length ≤ 300
      · simp only [decide_eq_false (show ¬ ((scanL (t.drop at_)).1.length : Int) > 300 by omega), if_pos h3]
        by_cases he : (scanL (t.drop at_)).1 = []
        · rw [if_pos he]
          refine Ev.step (f := fun _ => some (decide (at_ + 2 = t.length))) (fun k => ?_) (Ev.now _)
          simp only [impl_trailed.j1, Bool.false_eq_true, if_false, toList_mk]
          rw [if_pos he, he, size_mk]
          congr 1
          rw [Bool.eq_iff_iff, beq_iff_eq, decide_eq_true_eq]; simp; omega
        · rw [if_neg he]
          refine Ev.step (f := fun k => (impl_ReadField.f k (mkB (scanL (t.drop at_)).1)).bind fun b => (if b.2.2 = true then (if x = 20 then some false else (impl_trailed.l0 k (x + 1) (mkB t) ((at_ + (scanL (t.drop at_)).1.length + 2 : Nat) : Int))) else some false)) (fun k => ?_) ?_
          · simp only [impl_trailed.j1, Bool.false_eq_true, if_false, toList_mk]
            rw [if_neg he, wrap_id (by omega) (by omega)]
          refine (implReadField_is _ (by rw [size_mk]; omega)).bind ?_
          rw [bl_mk]
          cases hr : (readFieldL (scanL (t.drop at_)).1).2.2
          · simpa using Ev.now false
          · simp only [if_true]
            by_cases hc0 : c = 0
            · subst hc0
              simp only [if_pos (show x = 20 by omega), trailL]; exact Ev.now _
            · simp only [if_neg (show ¬ x = 20 by omega)]
              exact ih hc0 _ hn
      · simp only [decide_eq_true (show ((scanL (t.drop at_)).1.length : Int) > 300 by omega), if_neg h3]
        exact hbad _ _ _
    · rw [takeLineL_no h0]
      rw [trailL, if_neg (fun h => h0 h.1)]
      simp only [if_neg (show ¬ ((scanL (t.drop at_)).2 : Int) = 0 by omega)]
      exact hbad _ _ _
theorem mk_append (a b : List UInt8) : mkB a ++ mkB b = mkB (a ++ b) := by apply toList_inj; rw [toList_mk, toList_bl, bl, ByteArray.data_append]; simp [mkB]
theorem crlf_iff (l : List UInt8) : ((mkB l).toList = ([13, 10] : List UInt8)) ↔ l = [13, 10] := by rw [toList_mk]
theorem takeN_empty : impl_TakeN.f (⟨#[]⟩ : ByteArray) 0 2 = some ((⟨#[]⟩ : ByteArray), (⟨#[]⟩ : ByteArray), 0, false) := by
  have := implTakeN_is [] 0 2 (Nat.le_refl _) (by simp) (by omega)
  simpa [takeNL, mkB] using this
theorem both_go (t : List UInt8) (hl : t.length ≤ 1048576) : ∀ (m at_ : Nat) (body : List UInt8), t.length - at_ = m → at_ ≤ t.length → body.length ≤ 600 →
    ∃ r, Ev (fun k => spec_Chunks.l0 k (mkB body) (mkB t) (at_ : Int)) r ∧ Ev (fun k => impl_Chunks.l0 k (mkB body) (mkB t) (at_ : Int)) r := by
  intro m
  induction m using Nat.strongRecOn with
  | _ m ih =>
    intro at_ body hm ha hb
    have sbad : ∀ (x q t : ByteArray) (a : Int), Ev (fun k => spec_Chunks.j1 k x q true t a) ((⟨#[]⟩ : ByteArray), (400 : Int)) := fun x q t a => Ev.step (f := fun _ => some ((⟨#[]⟩ : ByteArray), (400 : Int))) (fun k => by simp only [spec_Chunks.j1, if_true]) (Ev.now _)
    have ibad : ∀ (x q t : ByteArray) (a : Int), Ev (fun k => impl_Chunks.j1 k x q true t a) ((⟨#[]⟩ : ByteArray), (400 : Int)) := fun x q t a => Ev.step (f := fun _ => some ((⟨#[]⟩ : ByteArray), (400 : Int))) (fun k => by simp only [impl_Chunks.j1, if_true]) (Ev.now _)
    have s0 : ∀ r, Ev (fun k => if (takeLineL t at_).2.2.2 = 0 then (spec_Chunks.j1 k (mkB body) (takeLineL t at_).1 (decide (((takeLineL t at_).1.size : Int) > 300)) (takeLineL t at_).2.1 (takeLineL t at_).2.2.1) else (spec_Chunks.j1 k (mkB body) (takeLineL t at_).1 true (takeLineL t at_).2.1 (takeLineL t at_).2.2.1)) r → Ev (fun k => spec_Chunks.l0 k (mkB body) (mkB t) (at_ : Int)) r := fun r h =>
      Ev.step (f := fun k => (spec_TakeLine.f k (mkB t) (at_ : Int)).bind fun b => (if b.2.2.2 = 0 then (spec_Chunks.j1 k (mkB body) b.1 (decide ((b.1.size : Int) > 300)) b.2.1 b.2.2.1) else (spec_Chunks.j1 k (mkB body) b.1 true b.2.1 b.2.2.1))) (fun k => by simp only [spec_Chunks.l0]) ((specTakeLine_is t at_ ha (by omega)).bind h)
    have i0 : ∀ r, Ev (fun k => if (takeLineL t at_).2.2.2 = 0 then (impl_Chunks.j1 k (mkB body) (takeLineL t at_).1 (decide (((takeLineL t at_).1.size : Int) > 300)) (takeLineL t at_).2.1 (takeLineL t at_).2.2.1) else (impl_Chunks.j1 k (mkB body) (takeLineL t at_).1 true (takeLineL t at_).2.1 (takeLineL t at_).2.2.1)) r → Ev (fun k => impl_Chunks.l0 k (mkB body) (mkB t) (at_ : Int)) r := fun r h =>
      Ev.step (f := fun k => (impl_TakeLine.f k (mkB t) (at_ : Int)).bind fun b => (if b.2.2.2 = 0 then (impl_Chunks.j1 k (mkB body) b.1 (decide ((b.1.size : Int) > 300)) b.2.1 b.2.2.1) else (impl_Chunks.j1 k (mkB body) b.1 true b.2.1 b.2.2.1))) (fun k => by simp only [impl_Chunks.l0]) ((implTakeLine_is t at_ ha (by omega)).bind h)
    by_cases h0 : (scanL (t.drop at_)).2 = 0
    · have hn := scan_next ha h0
      rw [takeLineL_ok h0] at s0 i0
      simp only [if_true, size_mk] at s0 i0
      generalize hline : (scanL (t.drop at_)).1 = line at *
      by_cases h3 : line.length ≤ 300
      · simp only [decide_eq_false (show ¬ (line.length : Int) > 300 by omega)] at s0 i0
        generalize hnext : at_ + line.length + 2 = nx at *
        have hw : (cutB 59 line).1.length ≤ 300 := by have := cutB_len 59 line; omega
        obtain ⟨n, hnn⟩ : ∃ n : Nat, (readHexT (cutB 59 line).1).1 = (n : Int) := ⟨(readHexT (cutB 59 line).1).1.toNat, by have := readHexT_bnd (cutB 59 line).1; omega⟩
        have hnb : n ≤ 268435455 := by have := readHexT_bnd (cutB 59 line).1; omega
        have hS : ∀ r, Ev (fun k => if (readHexT (cutB 59 line).1).2 = true then (if (n : Int) > (600 - (body.length : Int)) then some ((⟨#[]⟩ : ByteArray), (413 : Int)) else (if (n : Int) = 0 then ((spec_l6trailer.f k (mkB t) (nx : Int)).bind fun t146 => (if t146 = true then some (mkB body, (0 : Int)) else some ((⟨#[]⟩ : ByteArray), (400 : Int)))) else ((spec_TakeN.f (mkB t) (nx : Int) (n : Int)).bind fun b => (if b.2.2.2 = true then ((spec_TakeN.f b.2.1 b.2.2.1 2).bind fun c => (if c.2.2.2 = true then (if c.1.toList = ([13, 10] : List UInt8) then (if (mkB body).size + b.1.size ≤ 9223372036854775807 then (spec_Chunks.l0 k (mkB body ++ b.1) c.2.1 c.2.2.1) else none) else some ((⟨#[]⟩ : ByteArray), (400 : Int))) else some ((⟨#[]⟩ : ByteArray), (400 : Int)))) else some ((⟨#[]⟩ : ByteArray), (400 : Int)))))) else some ((⟨#[]⟩ : ByteArray), (400 : Int))) r → Ev (fun k => spec_Chunks.l0 k (mkB body) (mkB t) (at_ : Int)) r := fun r h => s0 r (by
          refine Ev.step (f := fun k => (spec_l6upto.f k (mkB line) 59).bind fun t143 => (spec_ReadHex.f k t143).bind fun q => if q.2 = true then (if q.1 > (600 - (body.length : Int)) then some ((⟨#[]⟩ : ByteArray), (413 : Int)) else (if q.1 = 0 then ((spec_l6trailer.f k (mkB t) (nx : Int)).bind fun t146 => (if t146 = true then some (mkB body, (0 : Int)) else some ((⟨#[]⟩ : ByteArray), (400 : Int)))) else ((spec_TakeN.f (mkB t) (nx : Int) q.1).bind fun b => (if b.2.2.2 = true then ((spec_TakeN.f b.2.1 b.2.2.1 2).bind fun c => (if c.2.2.2 = true then (if c.1.toList = ([13, 10] : List UInt8) then (if (mkB body).size + b.1.size ≤ 9223372036854775807 then (spec_Chunks.l0 k (mkB body ++ b.1) c.2.1 c.2.2.1) else none) else some ((⟨#[]⟩ : ByteArray), (400 : Int))) else some ((⟨#[]⟩ : ByteArray), (400 : Int)))) else some ((⟨#[]⟩ : ByteArray), (400 : Int)))))) else some ((⟨#[]⟩ : ByteArray), (400 : Int))) (fun k => ?_) ?_
          · simp only [spec_Chunks.j1, Bool.false_eq_true, if_false]
            rw [show wrap64 (600 - ((mkB body).size : Int)) = 600 - (body.length : Int) by rw [size_mk, wrap_id (by omega) (by omega)]]
          refine (upto_is 59 (mkB line) (by rw [size_mk]; omega)).bind ?_
          rw [bl_mk]
          refine (specReadHex_is (cutB 59 line).1).bind ?_
          simp only [hnn]
          exact h)
        have hI : ∀ r, Ev (fun k => if (readHexT (cutB 59 line).1).2 = true then (if (body.length : Int) + (n : Int) > 600 then some ((⟨#[]⟩ : ByteArray), (413 : Int)) else (if (n : Int) = 0 then ((impl_trailed.f k (mkB t) (nx : Int)).bind fun t212 => (impl_Chunks.j2 k (mkB body) (n : Int) (!t212) (mkB t) (nx : Int))) else (impl_Chunks.j2 k (mkB body) (n : Int) false (mkB t) (nx : Int)))) else some ((⟨#[]⟩ : ByteArray), (400 : Int))) r → Ev (fun k => impl_Chunks.l0 k (mkB body) (mkB t) (at_ : Int)) r := fun r h => i0 r (by
          refine Ev.step (f := fun k => (impl_ReadHex.f k (mkB (cutB 59 line).1)).bind fun q => if q.2 = true then (if (wrap64 (((mkB body).size : Int) + q.1)) > 600 then some ((⟨#[]⟩ : ByteArray), (413 : Int)) else (if q.1 = 0 then ((impl_trailed.f k (mkB t) (nx : Int)).bind fun t212 => (impl_Chunks.j2 k (mkB body) q.1 (!t212) (mkB t) (nx : Int))) else (impl_Chunks.j2 k (mkB body) q.1 false (mkB t) (nx : Int)))) else some ((⟨#[]⟩ : ByteArray), (400 : Int))) (fun k => ?_) ?_
          · simp only [impl_Chunks.j1, Bool.false_eq_true, if_false]
            rw [stringsCut_is (mkB line) 59 (by rw [size_mk]; omega), bl_mk]
            rfl
          refine (implReadHex_is (cutB 59 line).1).bind ?_
          simp only [hnn, size_mk]
          rw [wrap_id (by omega) (by omega)]
          exact h)
        clear s0 i0
        cases hok : (readHexT (cutB 59 line).1).2
        · rw [hok] at hS hI
          simp only [Bool.false_eq_true, if_false] at hS hI
          exact ⟨_, hS _ (Ev.now _), hI _ (Ev.now _)⟩
        · rw [hok] at hS hI
          simp only [if_true] at hS hI
          by_cases hbig : body.length + n > 600
          · simp only [if_pos (show (n : Int) > 600 - (body.length : Int) by omega)] at hS
            simp only [if_pos (show (body.length : Int) + (n : Int) > 600 by omega)] at hI
            exact ⟨_, hS _ (Ev.now _), hI _ (Ev.now _)⟩
          simp only [if_neg (show ¬ (n : Int) > 600 - (body.length : Int) by omega)] at hS
          simp only [if_neg (show ¬ (body.length : Int) + (n : Int) > 600 by omega)] at hI
          by_cases hz : n = 0
          · subst hz
            have e0 : ((0 : Nat) : Int) = 0 := rfl
            simp only [e0, if_true] at hS hI
            have tS := specTrail_go t hl 21 nx 0 (by omega) (by omega) hn
            have tI := implTrail_go t hl 20 nx 0 (by omega) (by omega) hn
            refine ⟨if trailL t 21 nx = true then (mkB body, (0 : Int)) else ((⟨#[]⟩ : ByteArray), (400 : Int)), hS _ ?_, hI _ ?_⟩
            · refine Ev.bind (a := trailL t 21 nx) (by simpa [spec_l6trailer.f] using tS) ?_
              cases trailL t 21 nx <;> simpa using Ev.now _
            · refine Ev.bind (a := trailL t 21 nx) (by simpa [impl_trailed.f] using tI) ?_
              cases trailL t 21 nx
              · exact Ev.step (f := fun _ => some ((⟨#[]⟩ : ByteArray), (400 : Int))) (fun k => by simp [impl_Chunks.j2]) (by simpa using Ev.now _)
              · exact Ev.step (f := fun _ => some (mkB body, (0 : Int))) (fun k => by simp [impl_Chunks.j2]) (by simpa using Ev.now _)
          · simp only [if_neg (show ¬ (n : Int) = 0 by omega)] at hS hI
            have hI2 : ∀ r, Ev (fun k => (impl_TakeN.f (mkB t) (nx : Int) (n : Int)).bind fun b => ((impl_TakeN.f b.2.1 b.2.2.1 2).bind fun c => (if b.2.2.2 = true then (if c.2.2.2 = true then (if c.1.toList = ([13, 10] : List UInt8) then (if (mkB body).size + b.1.size ≤ 9223372036854775807 then (impl_Chunks.l0 k (mkB body ++ b.1) c.2.1 c.2.2.1) else none) else some ((⟨#[]⟩ : ByteArray), (400 : Int))) else some ((⟨#[]⟩ : ByteArray), (400 : Int))) else some ((⟨#[]⟩ : ByteArray), (400 : Int))))) r → Ev (fun k => impl_Chunks.l0 k (mkB body) (mkB t) (at_ : Int)) r := fun r h => hI r (Ev.step (fun k => by simp only [impl_Chunks.j2, Bool.false_eq_true, if_false]; rw [if_neg (by omega)]) h)
            clear hI
            have eS := specTakeN_is t nx n hn (by omega) (by omega)
            have eI := implTakeN_is t nx n hn (by omega) (by omega)
            simp only [eS, Option.bind_some] at hS
            simp only [eI, Option.bind_some] at hI2
            by_cases hfit : n ≤ t.length - nx
            · have et : takeNL t nx n = (mkB ((t.drop nx).take n), mkB t, ((nx + n : Nat) : Int), true) := by unfold takeNL; rw [if_pos hfit]
              have eS2 := specTakeN_is t (nx + n) 2 (by omega) (by omega) (by omega)
              have eI2 := implTakeN_is t (nx + n) 2 (by omega) (by omega) (by omega)
              have e2 : ((2 : Nat) : Int) = 2 := rfl
              rw [e2] at eS2 eI2
              rw [et] at hS hI2
              simp only [eS2, eI2, Option.bind_some, if_true] at hS hI2
              by_cases hfit2 : 2 ≤ t.length - (nx + n)
              · have et2 : takeNL t (nx + n) 2 = (mkB ((t.drop (nx + n)).take 2), mkB t, ((nx + n + 2 : Nat) : Int), true) := by unfold takeNL; rw [if_pos hfit2]
                rw [et2] at hS hI2
                simp only [if_true, crlf_iff, size_mk] at hS hI2
                by_cases hcr : (t.drop (nx + n)).take 2 = [13, 10]
                · have hln : ((t.drop nx).take n).length ≤ 600 := by rw [List.length_take]; omega
                  simp only [if_pos hcr, if_pos (show body.length + ((t.drop nx).take n).length ≤ 9223372036854775807 by omega), mk_append] at hS hI2
                  obtain ⟨r, q1, q2⟩ := ih (t.length - (nx + n + 2)) (by omega) (nx + n + 2) (body ++ (t.drop nx).take n) rfl (by omega) (by rw [List.length_append, List.length_take]; omega)
                  exact ⟨r, hS r q1, hI2 r q2⟩
                · simp only [if_neg hcr] at hS hI2
                  exact ⟨_, hS _ (Ev.now _), hI2 _ (Ev.now _)⟩
              · have et2 : takeNL t (nx + n) 2 = ((⟨#[]⟩ : ByteArray), (⟨#[]⟩ : ByteArray), 0, false) := by unfold takeNL; rw [if_neg hfit2]
                rw [et2] at hS hI2
                simp only [Bool.false_eq_true, if_false] at hS hI2
                exact ⟨_, hS _ (Ev.now _), hI2 _ (Ev.now _)⟩
            · have et : takeNL t nx n = ((⟨#[]⟩ : ByteArray), (⟨#[]⟩ : ByteArray), 0, false) := by unfold takeNL; rw [if_neg hfit]
              rw [et] at hS hI2
              simp only [takeN_empty, Option.bind_some, Bool.false_eq_true, if_false] at hS hI2
              exact ⟨_, hS _ (Ev.now _), hI2 _ (Ev.now _)⟩
      · simp only [decide_eq_true (show (line.length : Int) > 300 by omega)] at s0 i0
        exact ⟨_, s0 _ (sbad _ _ _ _), i0 _ (ibad _ _ _ _)⟩
    · rw [takeLineL_no h0] at s0 i0
      simp only [if_neg (show ¬ ((scanL (t.drop at_)).2 : Int) = 0 by omega)] at s0 i0
      exact ⟨_, s0 _ (sbad _ _ _ _), i0 _ (ibad _ _ _ _)⟩
theorem FnExactChunks : laws_FnExactChunks.Pure := by
  intro b hb
  refine Ev.rounds ?_
  unfold laws_FnExactChunks.f
  by_cases hbig : (b.size : Int) > 1048576
  · simp only [if_pos hbig]; exact Ev.now _
  simp only [if_neg hbig]
  obtain ⟨r, h1, h2⟩ := both_go (bl b) (by rw [size_bl]; omega) _ 0 [] rfl (by omega) (by simp)
  rw [mk_bl] at h1 h2
  refine Ev.bind (a := r) (by simpa [spec_Chunks.f, mkB] using h1) ?_
  refine Ev.bind (a := r) (by simpa [impl_Chunks.f, mkB] using h2) ?_
  simp only [if_true]; exact Ev.now _

end Go.Proofs.Ytnfjjbpochmhpaa.Pure
