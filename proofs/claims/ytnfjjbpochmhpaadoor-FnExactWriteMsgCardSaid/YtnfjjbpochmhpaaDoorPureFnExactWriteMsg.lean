/- WriteMsg of the program and of the reference agree, the argument stays as it was, and the call returns true, for every message. No condition. -/
import Derived.Test.YtnfjjbpochmhpaaDoorGFnExactWriteMsgx11
import Derived.Laws.Strings
import Derived.Lib.ItoaLen
import Derived.Lib.ItoaNum
import Derived.OpenShut
namespace Go.Proofs.YtnfjjbpochmhpaaDoor.Pure
open Go.RowKit Go.Proofs.YtnfjjbpochmhpaaDoor.GFnExactWriteMsg Go.Proofs.YtnfjjbpochmhpaaDoorW.PrintWords Go.Proofs.YtnfjjbpochmhpaaDoorW.PrintLast Go.Proofs.YtnfjjbpochmhpaaDoorW.PrintMore
set_option linter.unusedVariables false
set_option linter.unusedSimpArgs false

/-! #### Bytes -/
/-- More rounds: an Ev of a function of its own. -/
theorem Ev.mono1 {α : Type} {g : Nat → Option α} {r : α} (K : Nat) (h : ∀ k, g (k + K) = some r) : Ev g r :=
  ⟨K, fun k hk => by obtain ⟨m, rfl⟩ : ∃ m, k = m + K := ⟨k - K, by omega⟩; exact h m⟩
theorem toList_inj {a b : ByteArray} (h : a.toList = b.toList) : a = b := by
  rw [ByteArray.toList_eq, ByteArray.toList_eq] at h
  cases a; cases b; simp_all
theorem getD_mid {α : Type} (pre : List α) (x : α) (r : List α) (z : α) : (pre ++ x :: r).getD ((pre.length : Int).toNat) z = x := by simp [List.getD]
theorem wrap_succ {n : Nat} (h : n < 9223372036854775807) : wrap64 ((n : Int) + 1) = ((n + 1 : Nat) : Int) := by unfold wrap64; omega
theorem wrap_id {a : Int} (h1 : -9223372036854775808 ≤ a) (h2 : a ≤ 9223372036854775807) : wrap64 a = a := by unfold wrap64; omega
theorem len_mid {α : Type} (pre : List α) (x : α) (r : List α) : (pre.length : Int) < ((pre ++ x :: r).length : Int) := by simp; omega
theorem app_mid {α : Type} (pre : List α) (x : α) (r : List α) : pre ++ x :: r = (pre ++ [x]) ++ r := by simp
theorem len_snoc {α : Type} (pre : List α) (x : α) : ((pre ++ [x]).length : Int) = (pre.length : Int) + 1 := by simp
theorem toList_length (s : ByteArray) : s.toList.length = s.size := by rw [ByteArray.toList_eq, Array.length_toList]; rfl
theorem size_pos_iff (s : ByteArray) : (s.toList = ([] : List UInt8)) ↔ (s.size : Int) = 0 := by
  rw [← List.length_eq_zero_iff, toList_length]; omega
theorem size_strOf (xs : List Int) : (strOfNums xs).size = xs.length := by
  show (strOfNums xs).data.size = _
  simp [strOfNums]
theorem length_bytesOf (s : ByteArray) : (bytesOf s).length = s.size := bytesOf_length s
theorem less_irrefl : ∀ l : List UInt8, Op.bytesLess l l = false
  | [] => rfl
  | a :: l => by simp [Op.bytesLess, less_irrefl l]
theorem less_total : ∀ l m : List UInt8, l ≠ m → Op.bytesLess l m = !Op.bytesLess m l
  | [], [], h => absurd rfl h
  | [], _ :: _, _ => rfl
  | _ :: _, [], _ => rfl
  | a :: l, b :: m, h => by
    by_cases e : a = b
    · subst e
      have := less_total l m (fun e => h (by rw [e]))
      simp [Op.bytesLess, this]
    · have hne : (a == b) = false := by simpa using e
      have hne' : (b == a) = false := by simpa using fun x => e x.symm
      simp only [Op.bytesLess, hne, hne', Bool.false_and, Bool.or_false]
      rcases Nat.lt_trichotomy a.toNat b.toNat with h1 | h1 | h1
      · have x1 : a < b := UInt8.lt_iff_toNat_lt.2 h1
        have x2 : ¬ b < a := fun x => by have := UInt8.lt_iff_toNat_lt.1 x; omega
        simp [x1, x2]
      · exact absurd (UInt8.toNat_inj.1 h1) e
      · have x1 : b < a := UInt8.lt_iff_toNat_lt.2 h1
        have x2 : ¬ a < b := fun x => by have := UInt8.lt_iff_toNat_lt.1 x; omega
        simp [x1, x2]

/-! #### Str -/
def mkB (l : List UInt8) : ByteArray := ⟨l.toArray⟩
def bl (s : ByteArray) : List UInt8 := s.data.toList
theorem mk_bl (s : ByteArray) : mkB (bl s) = s := by cases s; simp [mkB, bl]
theorem bl_mk (l : List UInt8) : bl (mkB l) = l := by simp [mkB, bl]
theorem size_mk (l : List UInt8) : (mkB l).size = l.length := by show (mkB l).data.size = _; simp [mkB]
theorem size_bl (s : ByteArray) : (bl s).length = s.size := by rw [bl, Array.length_toList]; rfl
theorem toList_bl (s : ByteArray) : s.toList = bl s := ByteArray.toList_eq s
theorem toList_mk (l : List UInt8) : (mkB l).toList = l := by rw [toList_bl, bl_mk]
theorem mkB_inj {l m : List UInt8} (h : mkB l = mkB m) : l = m := by rw [← bl_mk l, h, bl_mk]
theorem getB (l : List UInt8) (i : Nat) (h : i < (mkB l).size) : (mkB l)[i]'h = l[i]'(by rwa [size_mk] at h) := by
  show (mkB l).data[i]'h = _
  simp [mkB]
theorem bt_at_ (l : List UInt8) (i : Nat) (h : i < l.length) : bt (mkB l) (i : Int) = ((l[i]'h).toNat : Int) := by
  unfold bt
  rw [dif_pos (by rw [size_mk]; simpa using h), getB]
  simp
theorem bt_mid (pre : List UInt8) (b : UInt8) (r : List UInt8) : bt (mkB (pre ++ b :: r)) (pre.length : Int) = (b.toNat : Int) := by
  rw [bt_at_ _ _ (by simp)]
  simp
theorem extract_mk (l : List UInt8) (i j : Nat) : (mkB l).extract i j = mkB ((l.drop i).take (j - i)) := by
  apply toList_inj
  rw [toList_mk, toList_bl, bl, ByteArray.data_extract, Array.toList_extract]
  simp [mkB, List.extract]
theorem drop_mid (pre : List UInt8) (b : UInt8) (r : List UInt8) : (pre ++ b :: r).drop (pre.length + 1) = r := by
  rw [app_mid, List.drop_left' (by simp)]
theorem size_lt_mid (pre : List UInt8) (b : UInt8) (r : List UInt8) : (pre.length : Int) < ((mkB (pre ++ b :: r)).size : Int) := by rw [size_mk]; exact len_mid ..
theorem u8_lt (b : UInt8) : (b.toNat : Int) < 256 := by have := b.toNat_lt; omega
theorem toUInt8_toNat (b : UInt8) : ((b.toNat : Int)).toNat.toUInt8 = b := by simp
/-- 'for all bytes', as a loop over a string's places. -/
theorem all_loop (F : Nat → ByteArray → Int → Option Bool) (G : Nat → Int → Option Bool) (p : UInt8 → Bool) (hG : ∀ b : UInt8, Ev (fun k => G k b.toNat) (p b))
    (hF : ∀ k s i, F (k + 1) s i = if i < (s.size : Int) then (if 0 ≤ i then (G k (bt s i)).bind fun t => (if t = true then F k s (wrap64 (i + 1)) else some false) else none) else some true) :
    ∀ (r pre : List UInt8), (pre ++ r).length ≤ 9223372036854775806 → Ev (fun k => F k (mkB (pre ++ r)) pre.length) (r.all p)
  | [], pre, _ => Ev.step (f := fun _ => some true) (fun k => by rw [hF, size_mk]; simp) (Ev.now _)
  | b :: r, pre, hl => by
    have ih := all_loop F G p hG hF r (pre ++ [b]) (by rw [← app_mid]; exact hl)
    rw [← app_mid, len_snoc] at ih
    simp at hl
    refine Ev.step (f := fun k => (G k b.toNat).bind fun t => (if t = true then F k (mkB (pre ++ b :: r)) (pre.length + 1) else some false)) (fun k => ?_) ?_
    · rw [hF, if_pos (size_lt_mid ..), if_pos (by omega), bt_mid, wrap_id (by omega) (by omega)]
    refine (hG b).bind ?_
    cases hp : p b
    · simpa [List.all_cons, hp] using Ev.now false
    · simpa [List.all_cons, hp] using ih
theorem all_ev (F : Nat → ByteArray → Int → Option Bool) (G : Nat → Int → Option Bool) (p : UInt8 → Bool) (hG : ∀ b : UInt8, Ev (fun k => G k b.toNat) (p b))
    (hF : ∀ k s i, F (k + 1) s i = if i < (s.size : Int) then (if 0 ≤ i then (G k (bt s i)).bind fun t => (if t = true then F k s (wrap64 (i + 1)) else some false) else none) else some true)
    (s : ByteArray) (hs : s.size ≤ 9223372036854775806) : Ev (fun k => F k s 0) ((bl s).all p) := by
  have := all_loop F G p hG hF (bl s) [] (by simpa [size_bl] using hs)
  simpa [mk_bl] using this
theorem Ev.const {α : Type} {x : Option α} {r : α} (h : x = some r) : Ev (fun _ => x) r := ⟨0, fun _ _ => h⟩

/-! #### Trim -/
def wh (b : UInt8) : Bool := decide (b.toNat = 32) || decide (b.toNat = 9)
def trimB (l : List UInt8) : List UInt8 := ((l.dropWhile wh).reverse.dropWhile wh).reverse
theorem l1white_is (b : UInt8) : spec_l1white.f (b.toNat : Int) = some (wh b) := by
  unfold spec_l1white.f wh
  by_cases h : b.toNat = 32
  · rw [if_pos (by omega)]; simp [h]
  · rw [if_neg (by omega)]
    by_cases h' : b.toNat = 9
    · simp [h']
    · simp [h, h']; omega
theorem isSpace_is (b : UInt8) : impl_isSpace.f (b.toNat : Int) = some (wh b) := l1white_is b
theorem take_mid (pre m suf : List UInt8) : ((pre ++ (m ++ suf)).drop pre.length).take (pre.length + m.length - pre.length) = m := by simp
theorem bt_mid2 (pre m : List UInt8) (b : UInt8) (suf : List UInt8) (i : Int) (hi : i = (pre.length : Int) + (m.length : Int)) : bt (mkB (pre ++ (m ++ b :: suf))) i = (b.toNat : Int) := by
  have := bt_mid (pre ++ m) b suf
  rw [List.append_assoc] at this
  rw [hi, ← this]; simp
theorem specTrim_end : ∀ (m pre suf : List UInt8), (pre ++ (m.reverse ++ suf)).length ≤ 9223372036854775806 →
    Ev (fun k => spec_Trim.l1 k (mkB (pre ++ (m.reverse ++ suf))) pre.length ((pre.length : Int) + m.length)) (mkB (m.dropWhile wh).reverse)
  | [], pre, suf, hl => by
    refine Ev.step (f := fun _ => some (mkB [])) (fun k => ?_) (by simpa using Ev.now (mkB []))
    simp only [spec_Trim.l1]
    simp at hl
    rw [if_neg (by simp), if_pos (by omega), if_pos (by simp), if_pos (by rw [size_mk]; simp <;> omega), extract_mk]
    simp
  | b :: m, pre, suf, hl => by
    have e : pre ++ ((b :: m).reverse ++ suf) = pre ++ (m.reverse ++ b :: suf) := by simp
    rw [e] at hl ⊢
    have hl2 := hl
    simp at hl2
    have hb : bt (mkB (pre ++ (m.reverse ++ b :: suf))) ((pre.length : Int) + m.length) = (b.toNat : Int) := bt_mid2 pre m.reverse b suf _ (by simp)
    have hw : wrap64 ((pre.length : Int) + ((b :: m).length : Int) - 1) = (pre.length : Int) + m.length := by rw [wrap_id (by simp <;> omega) (by simp <;> omega)]; simp <;> omega
    by_cases hwb : wh b = true
    · have ih := specTrim_end m pre (b :: suf) hl
      rw [List.dropWhile_cons, if_pos hwb]
      refine Ev.step (fun k => ?_) ih
      simp only [spec_Trim.l1]
      rw [if_pos (by simp <;> omega), hw, if_pos (by omega), if_pos (by rw [size_mk]; simp <;> omega), hb, l1white_is, hwb]
      simp
    · rw [List.dropWhile_cons, if_neg hwb]
      have hwb' : wh b = false := by simpa using hwb
      refine Ev.step (f := fun _ => some (mkB (b :: m).reverse)) (fun k => ?_) (Ev.now _)
      simp only [spec_Trim.l1]
      rw [if_pos (by simp <;> omega), hw, if_pos (by omega), if_pos (by rw [size_mk]; simp <;> omega), hb, l1white_is, hwb']
      simp only [Option.bind_some, Bool.false_eq_true, if_false]
      rw [if_pos (by omega), if_pos (by simp <;> omega), if_pos (by rw [size_mk]; simp <;> omega), extract_mk]
      have hn : ((pre.length : Int) + ((b :: m).length : Int)).toNat = pre.length + (b :: m).reverse.length := by simp; omega
      rw [hn, Int.toNat_natCast, ← e, take_mid]
theorem specTrim_go : ∀ (r pre : List UInt8), (pre ++ r).length ≤ 9223372036854775806 →
    Ev (fun k => spec_Trim.l0 k (mkB (pre ++ r)) pre.length) (mkB (trimB r))
  | [], pre, hl => by
    have := specTrim_end [] pre [] (by simpa using hl)
    refine Ev.step (f := fun k => spec_Trim.j1 k (mkB (pre ++ [])) pre.length) (fun k => by simp only [spec_Trim.l0]; rw [if_neg (by rw [size_mk]; simp)]) ?_
    refine Ev.step (f := fun k => spec_Trim.l1 k (mkB (pre ++ [])) pre.length ((mkB (pre ++ [])).size : Int)) (fun k => by simp only [spec_Trim.j1]) ?_
    rw [size_mk]
    simpa [trimB] using this
  | b :: r, pre, hl => by
    have hl2 := hl
    simp at hl2
    by_cases hwb : wh b = true
    · have ih := specTrim_go r (pre ++ [b]) (by rw [← app_mid]; exact hl)
      rw [← app_mid, len_snoc] at ih
      have et : trimB (b :: r) = trimB r := by simp [trimB, List.dropWhile_cons, hwb]
      rw [et]
      refine Ev.step (fun k => ?_) ih
      simp only [spec_Trim.l0]
      rw [if_pos (size_lt_mid ..), if_pos (by omega), bt_mid, l1white_is, hwb, wrap_id (by omega) (by omega)]
      simp
    · have hwb' : wh b = false := by simpa using hwb
      have := specTrim_end (b :: r).reverse pre [] (by simpa using hl)
      refine Ev.step (f := fun k => spec_Trim.j1 k (mkB (pre ++ b :: r)) pre.length) (fun k => ?_) ?_
      · simp only [spec_Trim.l0]
        rw [if_pos (size_lt_mid ..), if_pos (by omega), bt_mid, l1white_is, hwb']
        simp
      refine Ev.step (f := fun k => spec_Trim.l1 k (mkB (pre ++ b :: r)) pre.length ((mkB (pre ++ b :: r)).size : Int)) (fun k => by simp only [spec_Trim.j1]) ?_
      have e2 : ((mkB (pre ++ b :: r)).size : Int) = (pre.length : Int) + ((b :: r).reverse.length : Int) := by rw [size_mk]; simp
      rw [e2]
      have et : trimB (b :: r) = ((b :: r).reverse.dropWhile wh).reverse := by simp only [trimB, List.dropWhile_cons, hwb', Bool.false_eq_true, if_false]
      rw [et]
      simpa using this
theorem specTrim_is (s : ByteArray) (hs : s.size ≤ 9223372036854775806) : Ev (fun k => spec_Trim.f k s) (mkB (trimB (bl s))) := by
  have := specTrim_go (bl s) [] (by simpa [size_bl] using hs)
  simpa [mk_bl, spec_Trim.f] using this
theorem implTrim_end : ∀ (m : List UInt8), m.length ≤ 9223372036854775806 → Ev (fun k => impl_Trim.l1 k (mkB m.reverse)) (mkB (m.dropWhile wh).reverse)
  | [], _ => Ev.step (f := fun _ => some (mkB [])) (fun k => by simp [impl_Trim.l1, toList_mk]) (by simpa using Ev.now (mkB []))
  | b :: m, hl => by
    simp at hl
    have hw : wrap64 (((mkB (b :: m).reverse).size : Int) - 1) = (m.length : Int) := by rw [size_mk, wrap_id (by simp <;> omega) (by simp <;> omega)]; simp
    have hb : bt (mkB (b :: m).reverse) (m.length : Int) = (b.toNat : Int) := by
      have := bt_mid m.reverse b []
      simpa using this
    have hcell : ∀ k, impl_Trim.l1 (k + 1) (mkB (b :: m).reverse) = if wh b = true then impl_Trim.l1 k (mkB m.reverse) else some (mkB (b :: m).reverse) := by
      intro k
      simp only [impl_Trim.l1]
      rw [if_neg (by rw [toList_mk]; simp), hw, if_pos (by omega), if_pos (by rw [size_mk]; simp <;> omega), hb, isSpace_is]
      simp only [Option.bind_some]
      split
      · rw [if_pos (by rw [size_mk]; simp <;> omega), extract_mk]
        congr 2
        simp
      · rfl
    by_cases hwb : wh b = true
    · rw [List.dropWhile_cons, if_pos hwb]
      exact Ev.step (fun k => by rw [hcell, if_pos hwb]) (implTrim_end m (by omega))
    · rw [List.dropWhile_cons, if_neg hwb]
      exact Ev.step (f := fun _ => some (mkB (b :: m).reverse)) (fun k => by rw [hcell, if_neg hwb]) (Ev.now _)
theorem implTrim_go : ∀ (r : List UInt8), r.length ≤ 9223372036854775806 → Ev (fun k => impl_Trim.l0 k (mkB r)) (mkB (trimB r))
  | [], _ => by
    have := implTrim_end [] (by simp)
    refine Ev.step (f := fun k => impl_Trim.j1 k (mkB [])) (fun k => by simp [impl_Trim.l0, toList_mk]) ?_
    exact Ev.step (f := fun k => impl_Trim.l1 k (mkB [])) (fun k => by simp only [impl_Trim.j1]) (by simpa [trimB] using this)
  | b :: r, hl => by
    simp at hl
    have hb : bt (mkB (b :: r)) 0 = (b.toNat : Int) := by simpa using bt_mid [] b r
    by_cases hwb : wh b = true
    · have ih := implTrim_go r (by omega)
      have et : trimB (b :: r) = trimB r := by simp [trimB, List.dropWhile_cons, hwb]
      rw [et]
      refine Ev.step (fun k => ?_) ih
      simp only [impl_Trim.l0]
      rw [if_neg (by rw [toList_mk]; simp), if_pos (by rw [size_mk]; simp <;> omega), hb, isSpace_is, hwb]
      simp only [Option.bind_some, if_true]
      rw [if_pos (by rw [size_mk]; simp <;> omega), extract_mk]
      simp [size_mk]
    · have hwb' : wh b = false := by simpa using hwb
      have := implTrim_end (b :: r).reverse (by simpa using hl)
      refine Ev.step (f := fun k => impl_Trim.j1 k (mkB (b :: r))) (fun k => ?_) ?_
      · simp only [impl_Trim.l0]
        rw [if_neg (by rw [toList_mk]; simp), if_pos (by rw [size_mk]; simp <;> omega), hb, isSpace_is, hwb']
        simp
      refine Ev.step (f := fun k => impl_Trim.l1 k (mkB (b :: r))) (fun k => by simp only [impl_Trim.j1]) ?_
      have et : trimB (b :: r) = ((b :: r).reverse.dropWhile wh).reverse := by simp only [trimB, List.dropWhile_cons, hwb', Bool.false_eq_true, if_false]
      rw [et]
      simpa using this
theorem implTrim_is (s : ByteArray) (hs : s.size ≤ 9223372036854775806) : Ev (fun k => impl_Trim.f k s) (mkB (trimB (bl s))) := by
  have := implTrim_go (bl s) (by simpa [size_bl] using hs)
  simpa [mk_bl, impl_Trim.f] using this

/-! #### Chars -/
def plB (b : UInt8) : Bool := decide (b.toNat = 9) || (decide (32 ≤ b.toNat) && decide (b.toNat ≠ 127))
theorem specPlain_is (b : UInt8) : spec_l1plain.f (b.toNat : Int) = some (plB b) := by
  unfold spec_l1plain.f plB
  by_cases h : b.toNat = 9
  · rw [if_pos (by omega)]; simp [h]
  · rw [if_neg (by omega)]
    by_cases h' : 32 ≤ b.toNat
    · rw [if_pos (by omega)]; congr 1; rw [Bool.eq_iff_iff]; simp [h, h']; omega
    · rw [if_neg (by omega)]; simp [h, h']
theorem implPlain_is (b : UInt8) : impl_isPlain.f (b.toNat : Int) = some (plB b) := specPlain_is b

/-! #### Token -/
def tokOdd : List UInt8 := [33, 35, 36, 37, 38, 39, 42, 43, 45, 46, 94, 95, 124, 126]
def lowB (b : UInt8) : Bool := decide (97 ≤ b.toNat) && decide (b.toNat ≤ 122)
def uppB (b : UInt8) : Bool := decide (65 ≤ b.toNat) && decide (b.toNat ≤ 90)
def digB (b : UInt8) : Bool := decide (48 ≤ b.toNat) && decide (b.toNat ≤ 57)
def tokB (b : UInt8) : Bool := lowB b || uppB b || digB b || decide (b.toNat = 96) || tokOdd.contains b
theorem isLower_is (b : UInt8) : impl_isLower.f (b.toNat : Int) = some (lowB b) := by
  unfold impl_isLower.f lowB
  by_cases h : 97 ≤ b.toNat
  · rw [if_pos (by omega)]; congr 1; rw [Bool.eq_iff_iff]; simp [h]; omega
  · rw [if_neg (by omega)]; simp [h]
theorem isUpper_is (b : UInt8) : impl_isUpper.f (b.toNat : Int) = some (uppB b) := by
  unfold impl_isUpper.f uppB
  by_cases h : 65 ≤ b.toNat
  · rw [if_pos (by omega)]; congr 1; rw [Bool.eq_iff_iff]; simp [h]; omega
  · rw [if_neg (by omega)]; simp [h]
theorem isDigit_is (b : UInt8) : impl_isDigit.f (b.toNat : Int) = some (digB b) := by
  unfold impl_isDigit.f digB
  by_cases h : 48 ≤ b.toNat
  · rw [if_pos (by omega)]; congr 1; rw [Bool.eq_iff_iff]; simp [h]; omega
  · rw [if_neg (by omega)]; simp [h]
theorem l1digit_is (b : UInt8) : spec_l1digit.f (b.toNat : Int) = some (digB b) := isDigit_is b
theorem indexByte_pos : ∀ (l : List UInt8) (c : UInt8), Lib.indexByte l c ≥ 0 ↔ l.contains c = true
  | [], c => by simp [Lib.indexByte]
  | b :: l, c => by
    have ih := indexByte_pos l c
    have lo : -1 ≤ Lib.indexByte l c := Lib.indexByte_ge l c
    unfold Lib.indexByte
    by_cases h : b = c
    · subst h; simp
    · have hb : (b == c) = false := by simpa using h
      have hc : (c == b) = false := by simpa using fun x => h x.symm
      rw [hb]
      simp only [Bool.false_eq_true, if_false, List.contains_cons, hc, Bool.false_or]
      rw [← ih]
      by_cases h2 : Lib.indexByte l c = -1
      · simp [h2]
      · have : (Lib.indexByte l c == -1) = false := by simpa using h2
        rw [this]; simp; omega
theorem isTokenByte_is (b : UInt8) : impl_isTokenByte.f (b.toNat : Int) = some (tokB b) := by
  have hi : (decide (Lib.indexByte tokOdd b ≥ 0)) = tokOdd.contains b := by
    rw [Bool.eq_iff_iff, decide_eq_true_iff]; exact indexByte_pos _ _
  have hx : strings_IndexByte.f (⟨#[33, 35, 36, 37, 38, 39, 42, 43, 45, 46, 94, 95, 124, 126]⟩ : ByteArray) (b.toNat : Int) = some (Lib.indexByte tokOdd b) := by
    unfold strings_IndexByte.f; rw [toUInt8_toNat]; rfl
  unfold impl_isTokenByte.f
  simp only [isLower_is, isUpper_is, isDigit_is, hx, Option.bind_some, hi]
  unfold tokB
  cases lowB b <;> cases uppB b <;> cases digB b <;> simp
  all_goals (by_cases h : b.toNat = 96 <;> simp [h])
  all_goals (try omega)
theorem has_go (c : Int) : ∀ (r pre : List UInt8), (pre ++ r).length ≤ 9223372036854775806 → Ev (fun k => spec_l1has.l0 k (mkB (pre ++ r)) c pre.length) (r.any fun x => decide ((x.toNat : Int) = c))
  | [], pre, hl => Ev.step (f := fun _ => some false) (fun k => by simp only [spec_l1has.l0]; rw [if_neg (by rw [size_mk]; simp)]) (Ev.now _)
  | b :: r, pre, hl => by
    have ih := has_go c r (pre ++ [b]) (by rw [← app_mid]; exact hl)
    rw [← app_mid, len_snoc] at ih
    simp at hl
    by_cases h : (b.toNat : Int) = c
    · refine Ev.step (f := fun _ => some true) (fun k => ?_) (by simpa [h] using Ev.now true)
      simp only [spec_l1has.l0]
      rw [if_pos (size_lt_mid ..), if_pos (by omega), bt_mid, if_pos h]
    · refine Ev.step (fun k => ?_) (by simpa [h] using ih)
      simp only [spec_l1has.l0]
      rw [if_pos (size_lt_mid ..), if_pos (by omega), bt_mid, if_neg h, wrap_id (by omega) (by omega)]
theorem has_is (set : List UInt8) (b : UInt8) (h : set.length ≤ 9223372036854775806) : Ev (fun k => spec_l1has.f k (mkB set) (b.toNat : Int)) (set.contains b) := by
  have := has_go (b.toNat : Int) set [] (by simpa using h)
  have e : (set.any fun x => decide ((x.toNat : Int) = (b.toNat : Int))) = set.contains b := by
    rw [← List.any_beq]
    congr 1
    funext x
    rw [Bool.eq_iff_iff]
    simp only [decide_eq_true_eq, beq_iff_eq]
    constructor
    · intro h; exact (UInt8.toNat_inj.1 (by omega)).symm
    · intro h; rw [h]
  rw [e] at this
  simpa [spec_l1has.f] using this
theorem tchar_is (b : UInt8) : Ev (fun k => spec_l1tchar.f k (b.toNat : Int)) (tokB b) := by
  have hb := u8_lt b
  have hh : Ev (fun k => spec_l1has.f k (⟨#[33, 35, 36, 37, 38, 39, 42, 43, 45, 46, 94, 95, 124, 126]⟩ : ByteArray) (b.toNat : Int)) (tokOdd.contains b) := has_is tokOdd b (by decide)
  have rest : Ev (fun k => if digB b = true then some true else if (b.toNat : Int) = 96 then some true else (spec_l1has.f k (⟨#[33, 35, 36, 37, 38, 39, 42, 43, 45, 46, 94, 95, 124, 126]⟩ : ByteArray) (b.toNat : Int)).bind fun t => some t) (digB b || decide (b.toNat = 96) || tokOdd.contains b) := by
    cases hd : digB b
    · by_cases h9 : b.toNat = 96
      · simpa [h9] using Ev.now true
      · have : ¬ (b.toNat : Int) = 96 := by omega
        simpa [h9, this] using hh.bind (f := fun _ (t : Bool) => some t) (Ev.now _)
    · simpa using Ev.now true
  unfold spec_l1tchar.f spec_l1lower.f
  simp only [l1digit_is]
  unfold tokB
  by_cases hU : 65 ≤ b.toNat ∧ b.toNat ≤ 90
  · have e1 : uppB b = true := by simp [uppB, hU]
    simp only [if_pos (show (b.toNat : Int) ≥ 65 by omega), if_pos (show (b.toNat : Int) ≤ 90 by omega), Option.bind_some, if_pos (show ((b.toNat : Int) + 32) % 256 ≥ 97 by omega), if_pos (show ((b.toNat : Int) + 32) % 256 ≤ 122 by omega)]
    simpa [e1] using Ev.now true
  · have e1 : uppB b = false := by simp [uppB]; omega
    have hlow : (if (b.toNat : Int) ≥ 65 then (if (b.toNat : Int) ≤ 90 then some (((b.toNat : Int) + 32) % 256) else some (b.toNat : Int)) else some (b.toNat : Int)) = some (b.toNat : Int) := by
      split
      · rw [if_neg (by omega)]
      · rfl
    rw [hlow]
    simp only [Option.bind_some]
    by_cases hL : 97 ≤ b.toNat
    · by_cases hL2 : b.toNat ≤ 122
      · have e2 : lowB b = true := by simp [lowB, hL, hL2]
        simp only [if_pos (show (b.toNat : Int) ≥ 97 by omega), if_pos (show (b.toNat : Int) ≤ 122 by omega)]
        simpa [e2] using Ev.now true
      · have e2 : lowB b = false := by simp [lowB, hL2]
        simp only [if_pos (show (b.toNat : Int) ≥ 97 by omega), if_neg (show ¬ (b.toNat : Int) ≤ 122 by omega)]
        simpa [e1, e2] using rest
    · have e2 : lowB b = false := by simp [lowB, hL]
      simp only [if_neg (show ¬ (b.toNat : Int) ≥ 97 by omega)]
      simpa [e1, e2] using rest
def tokenL (l : List UInt8) : Bool := decide (1 ≤ l.length) && decide (l.length ≤ 4000) && l.all tokB
theorem specToken_is (s : ByteArray) : Ev (fun k => spec_Token.f k s) (tokenL (bl s)) := by
  unfold spec_Token.f tokenL
  rw [size_bl]
  by_cases h0 : (s.size : Int) = 0
  · simp only [if_pos h0]
    refine Ev.step (f := fun _ => some false) (fun k => by simp [spec_Token.j0]) ?_
    simpa [show ¬ 1 ≤ s.size by omega] using Ev.now false
  · simp only [if_neg h0]
    by_cases h4 : (s.size : Int) > 4000
    · refine Ev.step (f := fun _ => some false) (fun k => by simp [spec_Token.j0, h4]) ?_
      simpa [show ¬ s.size ≤ 4000 by omega] using Ev.now false
    · refine Ev.step (f := fun k => spec_Token.l0 k s 0) (fun k => by simp [spec_Token.j0, h4]) ?_
      have := all_ev spec_Token.l0 spec_l1tchar.f tokB tchar_is (fun k s i => by simp only [spec_Token.l0]) s (by omega)
      simpa [show 1 ≤ s.size by omega, show s.size ≤ 4000 by omega] using this

/-! #### Within -/
theorem within_is (n a b : Int) : impl_within.f n a b = some (decide (a ≤ n) && decide (n ≤ b)) := by
  unfold impl_within.f
  by_cases h : a ≤ n <;> simp [h]

/-! #### FieldOk -/
theorem implToken_is (s : ByteArray) : Ev (fun k => impl_Token.f k s) (tokenL (bl s)) := by
  unfold impl_Token.f tokenL
  rw [size_bl]
  simp only [within_is, Option.bind_some]
  have e : (decide ((1 : Int) ≤ (s.size : Int)) && decide ((s.size : Int) ≤ 4000)) = (decide (1 ≤ s.size) && decide (s.size ≤ 4000)) := by rw [Bool.eq_iff_iff]; simp; omega
  rw [e]
  cases h : (decide (1 ≤ s.size) && decide (s.size ≤ 4000))
  · simpa using Ev.now false
  · have hs : s.size ≤ 9223372036854775806 := by simp at h; omega
    have := all_ev impl_all__impl_isTokenByte.l0 (fun _ c => impl_isTokenByte.f c) tokB (fun b => Ev.const (isTokenByte_is b)) (fun k s i => by simp only [impl_all__impl_isTokenByte.l0]) s hs
    simpa [impl_all__impl_isTokenByte.f] using this.bind (f := fun _ (t : Bool) => some t) (Ev.now _)
def fieldL (n v : List UInt8) : Bool := tokenL n && decide (n.length ≤ 40) && decide (v.length ≤ 190) && v.all plB && decide (trimB v = v)
theorem specL5plain_is (s : ByteArray) (hs : s.size ≤ 9223372036854775806) : Ev (fun k => spec_l5plain.f k s) ((bl s).all plB) := by
  have := all_ev spec_l5plain.l0 (fun _ c => spec_l1plain.f c) plB (fun b => Ev.const (specPlain_is b)) (fun k s i => by simp only [spec_l5plain.l0]) s hs
  simpa [spec_l5plain.f] using this
theorem implAllPlain_is (s : ByteArray) (hs : s.size ≤ 9223372036854775806) : Ev (fun k => impl_all__impl_isPlain.f k s) ((bl s).all plB) := by
  have := all_ev impl_all__impl_isPlain.l0 (fun _ c => impl_isPlain.f c) plB (fun b => Ev.const (implPlain_is b)) (fun k s i => by simp only [impl_all__impl_isPlain.l0]) s hs
  simpa [impl_all__impl_isPlain.f] using this
theorem trim_eq (v : ByteArray) : ((mkB (trimB (bl v))).toList == v.toList) = decide (trimB (bl v) = bl v) := by
  rw [toList_mk, toList_bl, Bool.eq_iff_iff]; simp
theorem specFieldOk_is (n v : ByteArray) : Ev (fun k => spec_FieldOk.f k n v) (fieldL (bl n) (bl v)) := by
  unfold spec_FieldOk.f fieldL
  rw [size_bl, size_bl]
  by_cases h1 : (n.size : Int) ≤ 40
  · simp only [if_pos h1]
    refine (specToken_is n).bind ?_
    cases ht : tokenL (bl n)
    · simpa using Ev.now false
    · by_cases h2 : (v.size : Int) ≤ 190
      · simp only [if_pos h2, if_true]
        refine (specL5plain_is v (by omega)).bind ?_
        cases hp : (bl v).all plB
        · simpa using Ev.now false
        · simp only [if_true]
          have := (specTrim_is v (by omega)).bind (f := fun _ (t : ByteArray) => some (t.toList == v.toList)) (Ev.now _)
          rw [trim_eq] at this
          simpa [show n.size ≤ 40 by omega, show v.size ≤ 190 by omega] using this
      · simp only [if_neg h2, if_true]
        simpa [show ¬ v.size ≤ 190 by omega] using Ev.now false
  · simp only [if_neg h1]
    simpa [show ¬ n.size ≤ 40 by omega] using Ev.now false
theorem implFieldOk_is (n v : ByteArray) : Ev (fun k => impl_FieldOk.f k n v) (fieldL (bl n) (bl v)) := by
  unfold impl_FieldOk.f fieldL
  rw [size_bl, size_bl]
  refine (implToken_is n).bind ?_
  cases ht : tokenL (bl n)
  · simpa using Ev.now false
  · by_cases h1 : (n.size : Int) ≤ 40
    · by_cases h2 : (v.size : Int) ≤ 190
      · simp only [if_pos h1, if_pos h2, if_true]
        refine (implAllPlain_is v (by omega)).bind ?_
        cases hp : (bl v).all plB
        · simpa using Ev.now false
        · simp only [if_true]
          have := (implTrim_is v (by omega)).bind (f := fun _ (t : ByteArray) => some (t.toList == v.toList)) (Ev.now _)
          rw [trim_eq] at this
          simpa [show n.size ≤ 40 by omega, show v.size ≤ 190 by omega] using this
      · simp only [if_pos h1, if_neg h2, if_true]
        simpa [show ¬ v.size ≤ 190 by omega] using Ev.now false
    · simp only [if_neg h1, if_true]
      simpa [show ¬ n.size ≤ 40 by omega] using Ev.now false

/-! #### Lists -/
/-- A loop that converts each element. -/
theorem toS_loop {α β : Type} (F : Nat → List α → List β → Int → Option (List β)) (z : α) (zb : β) (c : α → β)
    (hF : ∀ k l acc (i : Int), 0 ≤ i → i < (l.length : Int) → i < (acc.length : Int) → F (k + 1) l acc i = F k l (acc.set i.toNat (c (l.getD i.toNat z))) (wrap64 (i + 1)))
    (hE : ∀ k l acc, F (k + 1) l acc (l.length : Int) = some acc) :
    ∀ (r pre : List α) (acc : List β), acc.length = pre.length → (pre ++ r).length ≤ 1048576 → Ev (fun k => F k (pre ++ r) (acc ++ List.replicate r.length zb) pre.length) (acc ++ r.map c)
  | [], pre, acc, ha, _ => Ev.step (f := fun _ => some (acc ++ ([] : List α).map c)) (fun k => by simpa using hE k pre acc) (Ev.now _)
  | x :: r, pre, acc, ha, hl => by
    have ih := toS_loop F z zb c hF hE r (pre ++ [x]) (acc ++ [c x]) (by simp [ha]) (by rw [← app_mid]; exact hl)
    rw [← app_mid, len_snoc] at ih
    have e : acc ++ (x :: r).map c = (acc ++ [c x]) ++ r.map c := by simp
    rw [e]
    refine Ev.step (fun k => ?_) ih
    simp at hl
    rw [hF k _ _ _ (by omega) (len_mid ..) (by simp [ha]; omega), getD_mid, wrap_id (by omega) (by omega)]
    have e2 : (acc ++ List.replicate (x :: r).length zb).set ((pre.length : Int).toNat) (c x) = (acc ++ [c x]) ++ List.replicate r.length zb := by
      rw [show ((pre.length : Int).toNat) = acc.length by omega, List.length_cons, List.replicate_succ]
      simp
    rw [e2]
theorem toS_ev {α β : Type} (F : Nat → List α → List β → Int → Option (List β)) (z : α) (zb : β) (c : α → β)
    (hF : ∀ k l acc (i : Int), 0 ≤ i → i < (l.length : Int) → i < (acc.length : Int) → F (k + 1) l acc i = F k l (acc.set i.toNat (c (l.getD i.toNat z))) (wrap64 (i + 1)))
    (hE : ∀ k l acc, F (k + 1) l acc (l.length : Int) = some acc) (l : List α) (hl : l.length ≤ 1048576) : Ev (fun k => F k l (List.replicate l.length zb) 0) (l.map c) := by
  have := toS_loop F z zb c hF hE l [] [] rfl (by simpa using hl)
  simpa using this
/-- A loop that holds a list against itself. -/
theorem eqS_loop {β : Type} (F : Nat → List β → List β → Int → Option Bool) (hF : ∀ k l (i : Int), 0 ≤ i → i < (l.length : Int) → F (k + 1) l l i = F k l l (wrap64 (i + 1)))
    (hE : ∀ k l, F (k + 1) l l (l.length : Int) = some true) (L : List β) (hL : L.length ≤ 1048576) : ∀ (r pre : List β), pre ++ r = L → Ev (fun k => F k L L pre.length) true
  | [], pre, hp => by
    have e : pre = L := by simpa using hp
    exact Ev.step (f := fun _ => some true) (fun k => by rw [e]; exact hE k L) (Ev.now _)
  | x :: r, pre, hp => by
    have ih := eqS_loop F hF hE L hL r (pre ++ [x]) (by rw [← hp]; simp)
    rw [len_snoc] at ih
    have hlm := len_mid pre x r
    rw [hp] at hlm
    exact Ev.step (fun k => by rw [hF k L _ (by omega) hlm, wrap_id (by omega) (by omega)]) ih
theorem eqS_ev {β : Type} (F : Nat → List β → List β → Int → Option Bool) (hF : ∀ k l (i : Int), 0 ≤ i → i < (l.length : Int) → F (k + 1) l l i = F k l l (wrap64 (i + 1)))
    (hE : ∀ k l, F (k + 1) l l (l.length : Int) = some true) (l : List β) (hl : l.length ≤ 1048576) : Ev (fun k => F k l l 0) true := by
  simpa using eqS_loop F hF hE l hl l [] rfl
/-- A loop that asks each element. -/
theorem allS_loop {α : Type} (F : Nat → List α → Int → Option Bool) (G : Nat → α → Option Bool) (p : α → Bool) (z : α) (hG : ∀ x, Ev (fun k => G k x) (p x))
    (hF : ∀ k l (i : Int), 0 ≤ i → i < (l.length : Int) → F (k + 1) l i = (G k (l.getD i.toNat z)).bind fun t => if t = true then F k l (wrap64 (i + 1)) else some false)
    (hE : ∀ k l, F (k + 1) l (l.length : Int) = some true) : ∀ (r pre : List α), (pre ++ r).length ≤ 1048576 → Ev (fun k => F k (pre ++ r) pre.length) (r.all p)
  | [], pre, _ => Ev.step (f := fun _ => some true) (fun k => by simpa using hE k pre) (Ev.now _)
  | x :: r, pre, hl => by
    have ih := allS_loop F G p z hG hF hE r (pre ++ [x]) (by rw [← app_mid]; exact hl)
    rw [← app_mid, len_snoc] at ih
    simp at hl
    refine Ev.step (f := fun k => (G k x).bind fun t => if t = true then F k (pre ++ x :: r) (pre.length + 1) else some false) (fun k => ?_) ?_
    · rw [hF k _ _ (by omega) (len_mid ..), getD_mid, wrap_id (by omega) (by omega)]
    refine (hG x).bind ?_
    cases hp : p x
    · simpa [hp] using Ev.now false
    · simpa [hp] using ih
theorem allS_ev {α : Type} (F : Nat → List α → Int → Option Bool) (G : Nat → α → Option Bool) (p : α → Bool) (z : α) (hG : ∀ x, Ev (fun k => G k x) (p x))
    (hF : ∀ k l (i : Int), 0 ≤ i → i < (l.length : Int) → F (k + 1) l i = (G k (l.getD i.toNat z)).bind fun t => if t = true then F k l (wrap64 (i + 1)) else some false)
    (hE : ∀ k l, F (k + 1) l (l.length : Int) = some true) (l : List α) (hl : l.length ≤ 1048576) : Ev (fun k => F k l 0) (l.all p) := by
  simpa using allS_loop F G p z hG hF hE l [] (by simpa using hl)
/-- A loop that takes each element's weight off a number. -/
theorem szS_loop {α : Type} (F : Nat → List α → Int → Int → Option Int) (g : α → Int → Option Int) (wt : α → Nat) (okp : α → Prop) (z : α)
    (hg : ∀ x (n : Int), okp x → 0 ≤ n → n ≤ 1048576 → g x n = some (if n < wt x then -1 else n - wt x))
    (hF : ∀ k l n (i : Int), 0 ≤ i → i < (l.length : Int) → F (k + 1) l n i = (g (l.getD i.toNat z) n).bind fun t => if t < 0 then some (-1) else F k l t (wrap64 (i + 1)))
    (hE : ∀ k l n, F (k + 1) l n (l.length : Int) = some n) :
    ∀ (r pre : List α) (n : Int), (∀ x ∈ r, okp x) → (pre ++ r).length ≤ 1048576 → 0 ≤ n → n ≤ 1048576 →
    ∃ q, Ev (fun k => F k (pre ++ r) n pre.length) q ∧ q ≤ n ∧ (0 ≤ q → (((r.map wt).sum : Nat) : Int) ≤ n - q)
  | [], pre, n, _, _, h0, _ => ⟨n, Ev.step (f := fun _ => some n) (fun k => by simpa using hE k pre n) (Ev.now _), by omega, fun _ => by simp⟩
  | x :: r, pre, n, hb, hl, h0, h1 => by
    have hs := hg x n (hb x (by simp)) h0 h1
    by_cases hn : n < wt x
    · rw [if_pos hn] at hs
      refine ⟨-1, Ev.step (f := fun _ => some (-1)) (fun k => ?_) (Ev.now _), by omega, fun h => by omega⟩
      rw [hF k _ _ _ (by omega) (len_mid ..), getD_mid, hs]; simp
    · rw [if_neg hn] at hs
      obtain ⟨q, hq, hle, ht⟩ := szS_loop F g wt okp z hg hF hE r (pre ++ [x]) (n - wt x) (fun y hy => hb y (List.mem_cons_of_mem _ hy)) (by rw [← app_mid]; exact hl) (by omega) (by omega)
      rw [← app_mid, len_snoc] at hq
      refine ⟨q, Ev.step (fun k => ?_) hq, by omega, fun h => ?_⟩
      · simp at hl
        rw [hF k _ _ _ (by omega) (len_mid ..), getD_mid, hs]
        simp only [Option.bind_some]
        rw [if_neg (by omega), wrap_id (by omega) (by omega)]
      · have := ht h
        simp only [List.map_cons, List.sum_cons]
        omega
theorem szS_ev {α : Type} (F : Nat → List α → Int → Int → Option Int) (g : α → Int → Option Int) (wt : α → Nat) (okp : α → Prop) (z : α)
    (hg : ∀ x (n : Int), okp x → 0 ≤ n → n ≤ 1048576 → g x n = some (if n < wt x then -1 else n - wt x))
    (hF : ∀ k l n (i : Int), 0 ≤ i → i < (l.length : Int) → F (k + 1) l n i = (g (l.getD i.toNat z) n).bind fun t => if t < 0 then some (-1) else F k l t (wrap64 (i + 1)))
    (hE : ∀ k l n, F (k + 1) l n (l.length : Int) = some n) (l : List α) (n : Int) (hb : ∀ x ∈ l, okp x) (hl : l.length ≤ 9223372036854775807) (h0 : 0 ≤ n) (h1 : n ≤ 1048576) :
    ∃ q, Ev (fun k => if wrap64 (n - (l.length : Int)) < 0 then some (-1) else F k l (wrap64 (n - (l.length : Int))) 0) q ∧ q ≤ n ∧ (0 ≤ q → (l.length : Int) + (((l.map wt).sum : Nat) : Int) ≤ n - q) := by
  rw [wrap_id (by omega) (by omega)]
  by_cases h : n - (l.length : Int) < 0
  · refine ⟨-1, ?_, by omega, fun h => by omega⟩
    simp only [if_pos h]; exact Ev.now _
  · simp only [if_neg h]
    obtain ⟨q, hq, hle, ht⟩ := szS_loop F g wt okp z hg hF hE l [] (n - l.length) hb (by simp; omega) (by omega) (by omega)
    exact ⟨q, by simpa using hq, by omega, fun hh => by have := ht hh; omega⟩

/-! #### SzField -/
theorem szField_is (n v : ByteArray) (hn : n.size ≤ 9223372036854775807) (hv : v.size ≤ 9223372036854775807) (l : Int) (h0 : 0 ≤ l) (h1 : l ≤ 1048576) :
    laws_szField.f n v l = some (if l < n.size + v.size then -1 else l - n.size - v.size) := by
  unfold laws_szField.f
  rw [wrap_id (by omega) (by omega)]
  by_cases h : l - n.size < 0
  · rw [if_pos h, if_pos (by omega)]
  · rw [if_neg h, wrap_id (by omega) (by omega)]
    split <;> split <;> first | rfl | omega

/-! #### Fields -/
abbrev LFld := S74
abbrev IFld := S76
def cFld (x : LFld) : IFld := ⟨x.f0, x.f1⟩
def wFld (x : LFld) : Nat := x.f0.size + x.f1.size
theorem szFieldS_is (l : List LFld) (n : Int) (hb : ∀ x ∈ l, ok74 x) (hl : l.length ≤ 9223372036854775807) (h0 : 0 ≤ n) (h1 : n ≤ 1048576) :
    ∃ q, Ev (fun k => laws_szFieldS.f k l n) q ∧ q ≤ n ∧ (0 ≤ q → (l.length : Int) + (((l.map wFld).sum : Nat) : Int) ≤ n - q) := by
  refine szS_ev laws_szFieldS.l0 (fun x n => laws_szField.f x.f0 x.f1 n) wFld ok74 z74 ?_ ?_ ?_ l n hb hl h0 h1
  · intro x n hx h0 h1
    rw [szField_is _ _ hx.1 hx.2 n h0 h1]; congr 1
    have hw : (wFld x : Int) = (x.f0.size : Int) + (x.f1.size : Int) := by simp [wFld]
    by_cases hh : n < (x.f0.size : Int) + (x.f1.size : Int)
    · rw [if_pos hh, if_pos (by omega)]
    · rw [if_neg hh, if_neg (by omega)]; omega
  · intro k l n i h0 h1; simp only [laws_szFieldS.l0]; rw [if_pos h1, if_pos h0]; rfl
  · intro k l n; simp only [laws_szFieldS.l0]; rw [if_neg (by omega)]
theorem toFieldS_is (l : List LFld) (hl : l.length ≤ 1048576) : Ev (fun k => laws_toFieldS.f k l) (l.map cFld) := by
  unfold laws_toFieldS.f
  simp only [if_pos (show 0 ≤ (l.length : Int) by omega), if_pos (show (l.length : Int).toNat ≤ 8796093022208 by omega)]
  refine toS_ev laws_toFieldS.l0 z74 z76 cFld ?_ ?_ l hl
  · intro k l acc i h0 h1 h2
    simp only [laws_toFieldS.l0]
    rw [if_pos h1, if_pos h0]
    simp only [laws_toField.f, Option.bind_some]
    rw [if_pos h2]; rfl
  · intro k l acc; simp only [laws_toFieldS.l0]; rw [if_neg (by omega)]
theorem eqFieldS_is (l : List IFld) (hl : l.length ≤ 1048576) : Ev (fun k => laws_eqFieldS.f k l l) true := by
  unfold laws_eqFieldS.f
  simp only [if_true]
  refine eqS_ev laws_eqFieldS.l0 ?_ ?_ l hl
  · intro k l i h0 h1
    simp only [laws_eqFieldS.l0]
    rw [if_pos h1, if_pos h0, if_pos h1]
    simp [laws_eqField.f]
  · intro k l; simp only [laws_eqFieldS.l0]; rw [if_neg (by omega)]
def fldOk (x : IFld) : Bool := fieldL (bl x.f0) (bl x.f1)
def fldsOk (l : List IFld) : Bool := decide (l.length ≤ 20) && l.all fldOk
theorem specFieldsOk_is (l : List IFld) : Ev (fun k => spec_FieldsOk.f k l) (fldsOk l) := by
  unfold spec_FieldsOk.f fldsOk
  by_cases h : (l.length : Int) > 20
  · simp only [if_pos h]
    simpa [show ¬ l.length ≤ 20 by omega] using Ev.now false
  · simp only [if_neg h]
    have := allS_ev spec_FieldsOk.l0 (fun k x => spec_FieldOk.f k x.f0 x.f1) fldOk z76 (fun x => specFieldOk_is x.f0 x.f1)
      (fun k l i h0 h1 => by simp only [spec_FieldsOk.l0]; rw [if_pos h1, if_pos h0]; rfl) (fun k l => by simp only [spec_FieldsOk.l0]; rw [if_neg (by omega)]) l (by omega)
    simpa [show l.length ≤ 20 by omega] using this
theorem implFieldsOk_is (l : List IFld) : Ev (fun k => impl_FieldsOk.f k l) (fldsOk l) := by
  unfold impl_FieldsOk.f fldsOk
  by_cases h : (l.length : Int) > 20
  · simp only [if_pos h]
    simpa [show ¬ l.length ≤ 20 by omega] using Ev.now false
  · simp only [if_neg h]
    have := allS_ev (fun k l i => impl_FieldsOk.l0 k l (l.length : Int) i) (fun k x => impl_FieldOk.f k x.f0 x.f1) fldOk z76 (fun x => implFieldOk_is x.f0 x.f1)
      (fun k l i h0 h1 => by simp only [impl_FieldsOk.l0]; rw [if_pos h1, if_pos h0, if_pos h1]; rfl) (fun k l => by simp only [impl_FieldsOk.l0]; rw [if_neg (by omega)]) l (by omega)
    simpa [show l.length ≤ 20 by omega] using this

/-! #### ValuesI -/
/-- A loop that collects what is fit. -/
theorem filtS_go {α β : Type} (L : Nat → List α → List β → Int → Option (List β)) (p : α → Bool) (g : α → β) (ok : α → Prop) (z : α)
    (hstep : ∀ k l acc (i : Int), 0 ≤ i → i < (l.length : Int) → acc.length < 8796093022208 → ok (l.getD i.toNat z) → L (k + 1) l acc i = if p (l.getD i.toNat z) = true then L k l (acc ++ [g (l.getD i.toNat z)]) (wrap64 (i + 1)) else L k l acc (wrap64 (i + 1)))
    (hend : ∀ k l acc, L (k + 1) l acc (l.length : Int) = some acc) :
    ∀ (r pre : List α) (acc : List β), (∀ x ∈ r, ok x) → acc.length + r.length ≤ 1048576 → (pre ++ r).length ≤ 1048576 → Ev (fun k => L k (pre ++ r) acc pre.length) (acc ++ (r.filter p).map g)
  | [], pre, acc, _, _, _ => Ev.step (f := fun _ => some acc) (fun k => by simpa using hend k pre acc) (by simpa using Ev.now acc)
  | x :: r, pre, acc, ho, ha, hl => by
    have hx := ho x (by simp)
    simp only [List.length_cons] at ha
    have hw : wrap64 ((pre.length : Int) + 1) = (pre.length : Int) + 1 := by simp at hl; exact wrap_id (by omega) (by omega)
    have hs := fun k => hstep k (pre ++ x :: r) acc pre.length (by omega) (len_mid ..) (by omega) (by rw [getD_mid]; exact hx)
    simp only [getD_mid, hw] at hs
    by_cases hp : p x = true
    · have ih := filtS_go L p g ok z hstep hend r (pre ++ [x]) (acc ++ [g x]) (fun y hy => ho y (List.mem_cons_of_mem _ hy)) (by simp; omega) (by rw [← app_mid]; exact hl)
      rw [← app_mid, len_snoc] at ih
      rw [List.filter_cons_of_pos hp, List.map_cons, show acc ++ g x :: (r.filter p).map g = acc ++ [g x] ++ (r.filter p).map g by simp]
      exact Ev.step (fun k => by rw [hs, if_pos hp]) ih
    · have ih := filtS_go L p g ok z hstep hend r (pre ++ [x]) acc (fun y hy => ho y (List.mem_cons_of_mem _ hy)) (by omega) (by rw [← app_mid]; exact hl)
      rw [← app_mid, len_snoc] at ih
      rw [List.filter_cons_of_neg hp]
      exact Ev.step (fun k => by rw [hs, if_neg hp]) ih
def lowS (s : ByteArray) : ByteArray := strOfNums ((bytesOf s).map lowI)
def sameB (a b : ByteArray) : Bool := (lowS a).toList == (lowS b).toList
theorem specFold_is (s : ByteArray) (h : s.size ≤ 1099511627776) : spec_Fold.f s = some (lowS s) := by unfold spec_Fold.f; rw [if_pos h]; rfl
theorem implFold_is (s : ByteArray) (h : s.size ≤ 1099511627776) : impl_Fold.f s = some (lowS s) := by unfold impl_Fold.f; rw [if_pos h]; rfl
theorem implSame_is (a b : ByteArray) (ha : a.size ≤ 1099511627776) (hb : b.size ≤ 1099511627776) : impl_SameFold.f a b = some (sameB a b) := by
  unfold impl_SameFold.f; rw [implFold_is a ha, implFold_is b hb]; rfl
def valsF (l : List IFld) (n : ByteArray) : List ByteArray := (l.filter fun x => sameB x.f0 n).map (·.f1)
def vals (l : List IFld) (n : ByteArray) : List ByteArray := if fldsOk l = true then valsF l n else []
def smallF (x : IFld) : Prop := x.f0.size ≤ 1048576 ∧ x.f1.size ≤ 1048576
theorem implValues_is (l : List IFld) (n : ByteArray) (hl : l.length ≤ 1048576) (ho : ∀ x ∈ l, smallF x) (hn : n.size ≤ 1048576) : Ev (fun k => impl_Values.f k l n) (vals l n) := by
  unfold impl_Values.f vals
  refine (implFieldsOk_is l).bind ?_
  by_cases h : fldsOk l = true
  · simp only [if_pos h]
    have := filtS_go (fun k l acc i => impl_Values.l0 k n acc l (l.length : Int) i) (fun x => sameB x.f0 n) (·.f1) smallF z76
      (fun k l acc i h0 h1 h2 h3 => by simp only [impl_Values.l0]; rw [if_pos h1, if_pos h0, if_pos h1]; simp only [rd_T76]; rw [implSame_is _ _ (by have := h3.1; omega) (by omega)]; simp only [Option.bind_some, if_pos h2])
      (fun k l acc => by simp only [impl_Values.l0]; rw [if_neg (by omega)]) l [] [] ho (by simpa using hl) (by simpa using hl)
    simpa [valsF] using this
  · simp only [if_neg h]; exact Ev.now _
theorem le_sum_mem : ∀ (l : List Nat) (x : Nat), x ∈ l → x ≤ l.sum
  | a :: l, x, h => by
    simp only [List.sum_cons]
    rcases List.mem_cons.1 h with rfl | h
    · omega
    · have := le_sum_mem l x h; omega
theorem smallF_of (l : List LFld) (h : (((l.map wFld).sum : Nat) : Int) ≤ 1048576) : ∀ x ∈ l.map cFld, smallF x := by
  intro x hx
  obtain ⟨y, hy, rfl⟩ := List.mem_map.1 hx
  have : wFld y ≤ (l.map wFld).sum := le_sum_mem _ _ (List.mem_map_of_mem hy)
  simp only [wFld] at this
  exact ⟨by simp only [cFld]; omega, by simp only [cFld]; omega⟩

/-! #### Dec -/
theorem strOf_append (a b : List Int) : strOfNums (a ++ b) = strOfNums a ++ strOfNums b := by
  cases h : strOfNums (a ++ b) with | mk d =>
  cases h2 : strOfNums a ++ strOfNums b with | mk d2 =>
  congr 1
  have h3 : (strOfNums (a ++ b)).data.toList = (strOfNums a ++ strOfNums b).data.toList := by simp [strOfNums]
  rw [h, h2] at h3
  exact Array.toList_inj.1 h3
theorem strOf_digit (n : Nat) (h : n < 10) : strOfNums [(wrap64 (48 + (n : Int))) % 256] = mkB [UInt8.ofNat (48 + n)] := by
  have e : (wrap64 (48 + (n : Int))) % 256 = ((48 + n : Nat) : Int) := by rw [wrap_id (by omega) (by omega)]; omega
  rw [e]
  show (⟨(([((48 + n : Nat) : Int)] : List Int).map fun n => UInt8.ofNat n.toNat).toArray⟩ : ByteArray) = _
  rw [List.map_cons, List.map_nil, Int.toNat_natCast]
  rfl
theorem mk_append (a b : List UInt8) : mkB a ++ mkB b = mkB (a ++ b) := by
  cases h : mkB a ++ mkB b with | mk d =>
  have h3 : (mkB a ++ mkB b).data.toList = a ++ b := by simp [mkB]
  rw [h] at h3
  simp only [mkB, ByteArray.mk.injEq]
  apply Array.toList_inj.1
  rw [h3]
theorem nDigits_le15 (n : Nat) (h : n ≤ 999999999999999) : Lib.nDigits n ≤ 15 := by
  by_cases h1 : Lib.nDigits n ≤ 15
  · exact h1
  · have hk : ∀ k u : Nat, u < 10 ^ (k + 1) → Lib.nDigits u ≤ k + 1 := by
      intro k
      induction k with
      | zero => intro u hu; rw [Lib.nDigits_small (by simpa using hu)]; omega
      | succ k ih =>
        intro u hu
        by_cases h10 : u < 10
        · rw [Lib.nDigits_small h10]; omega
        · rw [Lib.nDigits_big h10]
          have := ih (u / 10) (by rw [Nat.pow_succ] at hu; omega)
          omega
    exact hk 14 n (by omega)
theorem specDec_is (n : Nat) (h : n ≤ 999999999999999) : Ev (fun k => spec_DecText.f k (n : Int)) (mkB (Lib.decDigits n)) := by
  induction n using Nat.strongRecOn with
  | _ n ih =>
    have hd : decide ((n : Int) > 999999999999999) = false := decide_eq_false (by omega)
    refine Ev.step (f := fun k => spec_DecText.j0 k (n : Int) false) (fun k => by simp only [spec_DecText.f]; rw [if_neg (by omega), hd]) ?_
    by_cases h10 : n < 10
    · refine Ev.step (f := fun _ => some (mkB (Lib.decDigits n))) (fun k => ?_) (Ev.now _)
      simp only [spec_DecText.j0, Bool.false_eq_true, if_false]
      rw [if_pos (by omega), strOf_digit n h10, Lib.decDigits, dif_pos h10]
    · have ih' := ih (n / 10) (by omega) (by omega)
      have hlen : (mkB (Lib.decDigits (n / 10))).size ≤ 15 := by rw [size_mk, Lib.decDigits_length]; exact nDigits_le15 _ (by omega)
      have e1 : wrap64 (Int.tdiv (n : Int) 10) = ((n / 10 : Nat) : Int) := by
        rw [Int.tdiv_eq_ediv_of_nonneg (by omega), wrap_id (by omega) (by omega)]; rfl
      have e2 : Int.tmod (n : Int) 10 = ((n % 10 : Nat) : Int) := by rw [Int.tmod_eq_emod_of_nonneg (by omega)]; rfl
      refine Ev.step (f := fun k => (spec_DecText.f k ((n / 10 : Nat) : Int)).bind fun t => if t.size + (mkB [UInt8.ofNat (48 + n % 10)]).size ≤ 9223372036854775807 then some (t ++ mkB [UInt8.ofNat (48 + n % 10)]) else none) (fun k => ?_) ?_
      · simp only [spec_DecText.j0, Bool.false_eq_true, if_false]
        rw [if_neg (by omega), e1, e2]
        simp only [Option.bind_some, strOf_digit (n % 10) (show n % 10 < 10 by omega)]
      · refine ih'.bind ?_
        have hs : (mkB [UInt8.ofNat (48 + n % 10)]).size = 1 := by rw [size_mk]; rfl
        have hdd : Lib.decDigits n = Lib.decDigits (n / 10) ++ [UInt8.ofNat (48 + n % 10)] := by rw [Lib.decDigits, dif_neg h10]
        rw [if_pos (by omega), mk_append, hdd]
        exact Ev.now _
theorem itoa_is (n : Nat) (h : n ≤ 999999999999999) : strconv_Itoa.f (n : Int) = some (mkB (Lib.decDigits n)) := by
  unfold strconv_Itoa.f
  rw [if_pos ⟨by omega, by omega⟩]
  unfold Lib.itoa
  rw [if_neg (by omega)]
  rfl

/-! #### Msg -/
def lCL : List UInt8 := [99, 111, 110, 116, 101, 110, 116, 45, 108, 101, 110, 103, 116, 104]
def lTE : List UInt8 := [116, 114, 97, 110, 115, 102, 101, 114, 45, 101, 110, 99, 111, 100, 105, 110, 103]
def lTR : List UInt8 := [116, 114, 97, 105, 108, 101, 114]
def isN (n : List UInt8) (x : IFld) : Bool := decide (bl (lowS x.f0) = n)
def framedB (l : List IFld) : Bool := l.any (isN lCL) || l.any (isN lTE) || l.any (isN lTR)
theorem specFramed_go : ∀ (r pre : List IFld), (∀ x ∈ r, smallF x) → (pre ++ r).length ≤ 1048576 → Ev (fun k => spec_l6framed.l0 k (pre ++ r) pre.length) (r.any fun x => isN lCL x || isN lTE x || isN lTR x)
  | [], pre, _, _ => Ev.step (f := fun _ => some false) (fun k => by simp [spec_l6framed.l0]) (Ev.now _)
  | x :: r, pre, ho, hl => by
    have hx := (ho x (by simp)).1
    have ih := specFramed_go r (pre ++ [x]) (fun y hy => ho y (List.mem_cons_of_mem _ hy)) (by rw [← app_mid]; exact hl)
    rw [← app_mid, len_snoc] at ih
    have hcell : ∀ k, spec_l6framed.l0 (k + 1) (pre ++ x :: r) pre.length = if bl (lowS x.f0) = lCL then some true else if bl (lowS x.f0) = lTE then some true else if bl (lowS x.f0) = lTR then some true else spec_l6framed.l0 k (pre ++ x :: r) (pre.length + 1) := by
      intro k
      simp only [spec_l6framed.l0]
      rw [if_pos (len_mid ..), if_pos (by omega)]
      simp only [rd_T76, getD_mid]
      rw [specFold_is x.f0 (by omega), wrap_id (by omega) (by simp at hl; omega)]
      simp only [Option.bind_some, toList_bl]
      rfl
    by_cases h1 : bl (lowS x.f0) = lCL
    · refine Ev.step (f := fun _ => some true) (fun k => by rw [hcell, if_pos h1]) ?_
      simpa [isN, h1] using Ev.now true
    by_cases h2 : bl (lowS x.f0) = lTE
    · refine Ev.step (f := fun _ => some true) (fun k => by rw [hcell, if_neg h1, if_pos h2]) ?_
      simpa [isN, h2] using Ev.now true
    by_cases h3 : bl (lowS x.f0) = lTR
    · refine Ev.step (f := fun _ => some true) (fun k => by rw [hcell, if_neg h1, if_neg h2, if_pos h3]) ?_
      simpa [isN, h3] using Ev.now true
    refine Ev.step (fun k => by rw [hcell, if_neg h1, if_neg h2, if_neg h3]) ?_
    simpa [isN, h1, h2, h3] using ih
theorem any_or3 (l : List IFld) : (l.any fun x => isN lCL x || isN lTE x || isN lTR x) = framedB l := by
  unfold framedB
  induction l with
  | nil => rfl
  | cons x r ih =>
    simp only [List.any_cons, ih]
    cases isN lCL x <;> cases isN lTE x <;> cases isN lTR x <;> simp <;> cases r.any (isN lCL) <;> cases r.any (isN lTE) <;> simp
theorem specFramed_is (l : List IFld) (ho : ∀ x ∈ l, smallF x) (hl : l.length ≤ 1048576) : Ev (fun k => spec_l6framed.f k l) (framedB l) := by
  rw [← any_or3]
  simpa [spec_l6framed.f] using specFramed_go l [] ho (by simpa using hl)
theorem hasField_is (l : List IFld) (n : List UInt8) (hn : lowS (mkB n) = mkB n) (hn2 : n.length ≤ 1048576) (hl : l.length ≤ 1048576) (ho : ∀ x ∈ l, smallF x) (hk : fldsOk l = true) : Ev (fun k => impl_hasField.f k l (mkB n)) (l.any (isN n)) := by
  unfold impl_hasField.f
  refine (implValues_is l (mkB n) hl ho (by rw [size_mk]; exact hn2)).bind ?_
  have e : decide (((vals l (mkB n)).length : Int) > 0) = l.any (isN n) := by
    unfold vals
    rw [if_pos hk]
    have hs : ∀ x : IFld, sameB x.f0 (mkB n) = isN n x := by
      intro x
      unfold sameB isN
      rw [hn, toList_mk, toList_bl]
      by_cases h : bl (lowS x.f0) = n <;> simp [h]
    clear hl ho hk
    induction l with
    | nil => rfl
    | cons x r ih =>
      simp only [valsF, List.filter_cons, hs, List.any_cons] at ih ⊢
      cases hx : isN n x
      · simpa using ih
      · simp
  rw [e]; exact Ev.now _
theorem low_CL : lowS (mkB lCL) = mkB lCL := by decide +kernel
theorem low_TE : lowS (mkB lTE) = mkB lTE := by decide +kernel
theorem low_TR : lowS (mkB lTR) = mkB lTR := by decide +kernel
/-! the first line -/
def visB (b : UInt8) : Bool := decide (33 ≤ b.toNat) && decide (b.toNat ≤ 126)
def bareS (n : Int) : Bool := decide (n = 204) || decide (n = 304)
def reqL (a0 a1 : ByteArray) (a2 : Int) (a3 : ByteArray) (a4 : Bool) : Bool := decide (a0.size ≤ 20) && tokenL (bl a0) && (decide (1 ≤ a1.size) && decide (a1.size ≤ 200) && (bl a1).all visB) && decide (a2 = 0) && decide (bl a3 = []) && !a4
def ansL (a1 : ByteArray) (a2 : Int) (a3 : ByteArray) (a4 : Bool) (a6 : ByteArray) : Bool := decide (bl a1 = []) && (decide (200 ≤ a2) && decide (a2 ≤ 599)) && (decide (a3.size ≤ 40) && (bl a3).all plB) && (if a4 = true then decide (bl a6 = []) else !bareS a2)
theorem implVis_is (b : UInt8) : impl_isVisible.f (b.toNat : Int) = some (visB b) := by
  unfold impl_isVisible.f visB
  by_cases h : 33 ≤ b.toNat
  · rw [if_pos (by omega), decide_eq_true h, Bool.true_and]; congr 1; exact decide_eq_decide.2 (by omega)
  · rw [if_neg (by omega), decide_eq_false h, Bool.false_and]
theorem implAllVis_is (s : ByteArray) (hs : s.size ≤ 9223372036854775806) : Ev (fun k => impl_all__impl_isVisible.f k s) ((bl s).all visB) :=
  all_ev impl_all__impl_isVisible.l0 (fun _ x => impl_isVisible.f x) visB (fun b => Ev.const (implVis_is b))
    (fun k s i => by simp only [impl_all__impl_isVisible.l0]) s hs
theorem specVisible_go : ∀ (r pre : List UInt8), (pre ++ r).length ≤ 9223372036854775806 → Ev (fun k => spec_l6visible.l0 k (mkB (pre ++ r)) pre.length) (r.all visB && decide (1 ≤ (pre ++ r).length))
  | [], pre, _ => Ev.step (f := fun _ => some (decide (1 ≤ (pre ++ []).length))) (fun k => by
      simp only [spec_l6visible.l0]
      rw [if_neg (by rw [size_mk]; simp), size_mk]
      congr 1; exact decide_eq_decide.2 (by omega)) (by simpa using Ev.now _)
  | b :: r, pre, hl => by
    have ih := specVisible_go r (pre ++ [b]) (by rw [← app_mid]; exact hl)
    rw [← app_mid, len_snoc] at ih
    have hw : wrap64 ((pre.length : Int) + 1) = (pre.length : Int) + 1 := by simp at hl; exact wrap_id (by omega) (by omega)
    have hcell : ∀ k, spec_l6visible.l0 (k + 1) (mkB (pre ++ b :: r)) pre.length = if visB b = true then spec_l6visible.l0 k (mkB (pre ++ b :: r)) (pre.length + 1) else some false := by
      intro k
      simp only [spec_l6visible.l0]
      rw [if_pos (size_lt_mid ..), if_pos (by omega), bt_mid, hw]
      by_cases h1 : (b.toNat : Int) < 33
      · rw [if_pos h1, if_neg]; simp [visB]; omega
      · by_cases h2 : (b.toNat : Int) > 126
        · rw [if_neg h1, if_pos h2, if_neg]; simp [visB]; omega
        · rw [if_neg h1, if_neg h2, if_pos]; simp [visB]; omega
    by_cases hv : visB b = true
    · refine Ev.step (fun k => by rw [hcell, if_pos hv]) ?_
      simpa [hv] using ih
    · refine Ev.step (f := fun _ => some false) (fun k => by rw [hcell, if_neg hv]) ?_
      simpa [hv] using Ev.now false
theorem specVisible_is (s : ByteArray) (hs : s.size ≤ 9223372036854775806) : Ev (fun k => spec_l6visible.f k s) ((bl s).all visB && decide (1 ≤ s.size)) := by
  have := specVisible_go (bl s) [] (by simpa [size_bl] using hs)
  simpa [spec_l6visible.f, mk_bl, size_bl] using this
theorem specRequest_is (a0 a1 : ByteArray) (a2 : Int) (a3 : ByteArray) (a4 : Bool) (l : List IFld) (a6 : ByteArray) (h0 : a0.size ≤ 1048576) (h1 : a1.size ≤ 1048576) : Ev (fun k => spec_l6request.f k a0 a1 a2 a3 a4 l a6) (reqL a0 a1 a2 a3 a4) := by
  unfold spec_l6request.f reqL
  by_cases c0 : a0.size ≤ 20
  · simp only [if_pos (show (a0.size : Int) ≤ 20 by omega), decide_eq_true c0, Bool.true_and]
    refine (specToken_is a0).bind ?_
    cases hT : tokenL (bl a0)
    · simpa using Ev.now false
    simp only [if_true, Bool.true_and]
    by_cases c1 : a1.size ≤ 200
    · simp only [if_pos (show (a1.size : Int) ≤ 200 by omega), decide_eq_true c1, Bool.and_true]
      refine (specVisible_is a1 (by omega)).bind ?_
      rw [Bool.and_comm (decide (1 ≤ a1.size))]
      cases hV : ((bl a1).all visB && decide (1 ≤ a1.size))
      · simpa using Ev.now false
      simp only [if_true, Bool.true_and]
      by_cases c2 : a2 = 0
      · simp only [if_pos c2, decide_eq_true c2, Bool.true_and, toList_bl]
        by_cases c3 : bl a3 = []
        · simp only [if_pos c3, decide_eq_true c3, Bool.true_and]; exact Ev.now _
        · simp only [if_neg c3, decide_eq_false c3, Bool.false_and]; exact Ev.now _
      · simp only [if_neg c2, decide_eq_false c2, Bool.false_and]; exact Ev.now _
    · simp only [if_neg (show ¬ (a1.size : Int) ≤ 200 by omega), decide_eq_false c1, Bool.and_false, Bool.false_and]; exact Ev.now _
  · simp only [if_neg (show ¬ (a0.size : Int) ≤ 20 by omega), decide_eq_false c0, Bool.false_and]; exact Ev.now _
theorem specAnswer_is (a0 a1 : ByteArray) (a2 : Int) (a3 : ByteArray) (a4 : Bool) (l : List IFld) (a6 : ByteArray) (h3 : a3.size ≤ 1048576) : Ev (fun k => spec_l6answer.f k a0 a1 a2 a3 a4 l a6) (ansL a1 a2 a3 a4 a6) := by
  unfold spec_l6answer.f ansL
  simp only [toList_bl]
  by_cases c1 : bl a1 = []
  · simp only [if_pos c1, decide_eq_true c1, Bool.true_and]
    by_cases c2 : a2 < 200
    · simp only [if_pos c2, decide_eq_false (show ¬ 200 ≤ a2 by omega), Bool.false_and]; exact Ev.now _
    simp only [if_neg c2, decide_eq_true (show 200 ≤ a2 by omega), Bool.true_and]
    by_cases c22 : a2 > 599
    · simp only [if_pos c22, decide_eq_false (show ¬ a2 ≤ 599 by omega), Bool.false_and]; exact Ev.now _
    simp only [if_neg c22, decide_eq_true (show a2 ≤ 599 by omega), Bool.true_and]
    by_cases c3 : (a3.size : Int) > 40
    · simp only [if_pos c3, decide_eq_false (show ¬ a3.size ≤ 40 by omega), Bool.false_and]; exact Ev.now _
    simp only [if_neg c3, decide_eq_true (show a3.size ≤ 40 by omega), Bool.true_and]
    refine (specL5plain_is a3 (by omega)).bind ?_
    cases hP : (bl a3).all plB
    · simpa using Ev.now false
    simp only [if_true, Bool.true_and]
    cases a4
    · simp only [Bool.false_eq_true, if_false, spec_l6bare.f, bareS]
      by_cases cb : a2 = 204
      · simp only [if_pos cb, Option.bind_some, decide_eq_true cb, Bool.true_or]; exact Ev.now _
      · simp only [if_neg cb, Option.bind_some, decide_eq_false cb, Bool.false_or]
        have : (a2 == 304) = decide (a2 = 304) := by by_cases h : a2 = 304 <;> simp [h]
        rw [this]; exact Ev.now _
    · simp only [if_true]
      by_cases c6 : bl a6 = []
      · simp only [if_pos c6, decide_eq_true c6]; exact Ev.now _
      · simp only [if_neg c6, decide_eq_false c6]; exact Ev.now _
  · simp only [if_neg c1, decide_eq_false c1, Bool.false_and]; exact Ev.now _
def totG (l : List IFld) : Nat := (l.map fun x => x.f0.size + x.f1.size).sum
theorem totG_conv (l : List LFld) : totG (l.map cFld) = (l.map wFld).sum := by simp [totG, wFld, cFld, Function.comp_def]; rfl
theorem smallF_totG (l : List IFld) (h : totG l ≤ 1048576) : ∀ x ∈ l, smallF x := by
  intro x hx
  have : x.f0.size + x.f1.size ≤ totG l := le_sum_mem _ _ (List.mem_map_of_mem (f := fun x : IFld => x.f0.size + x.f1.size) hx)
  exact ⟨by omega, by omega⟩

/-! #### MsgHead -/
def crB : List UInt8 := [13, 10]
def fldT (x : IFld) : List UInt8 := bl x.f0 ++ [58, 32] ++ bl x.f1
def fldsT (l : List IFld) : List UInt8 := l.flatMap fun x => fldT x ++ crB
def firstT (a0 a1 : ByteArray) (a2 : Int) (a3 : ByteArray) : List UInt8 := if bl a0 = [] then [72, 84, 84, 80, 47, 49, 46, 49, 32] ++ Lib.itoa a2 ++ [32] ++ bl a3 ++ crB else bl a0 ++ [32] ++ bl a1 ++ [32, 72, 84, 84, 80, 47, 49, 46, 49, 13, 10]
def lenT (a0 a6 : ByteArray) (a4 : Bool) : List UInt8 := if (if bl a0 = [] then !a4 else !decide (bl a6 = [])) = true then [67, 111, 110, 116, 101, 110, 116, 45, 76, 101, 110, 103, 116, 104, 58, 32] ++ Lib.itoa (a6.size : Int) ++ crB else []
def headT (a0 a1 : ByteArray) (a2 : Int) (a3 : ByteArray) (a4 : Bool) (l : List IFld) (a6 : ByteArray) : List UInt8 := firstT a0 a1 a2 a3 ++ fldsT l ++ lenT a0 a6 a4 ++ crB
theorem bl_app (a b : ByteArray) : bl (a ++ b) = bl a ++ bl b := by simp [bl]
theorem fldsT_len (l : List IFld) : (fldsT l).length = totG l + 4 * l.length := by
  induction l with
  | nil => rfl
  | cons x r ih =>
    have h1 : fldsT (x :: r) = fldT x ++ crB ++ fldsT r := by simp [fldsT]
    have h2 : totG (x :: r) = x.f0.size + x.f1.size + totG r := by simp [totG]
    rw [h1, h2, List.length_append, List.length_append, ih, List.length_cons]
    simp [fldT, crB, size_bl]
    omega
theorem wflds_is (l : List IFld) : impl_writeHead_flds l = fldsT l := by
  unfold impl_writeHead_flds fldsT
  congr 1
theorem itoa_len (n : Int) (h0 : -9223372036854775808 ≤ n) (h1 : n ≤ 9223372036854775807) : (Lib.itoa n).length ≤ 21 := Lib.itoa_length_le n h0 h1
theorem writeHead_is (a0 a1 : ByteArray) (a2 : Int) (a3 : ByteArray) (a4 : Bool) (l : List IFld) (a6 : ByteArray) (h0 : a0.size ≤ 1048576) (h1 : a1.size ≤ 1048576) (h3 : a3.size ≤ 1048576) (h6 : a6.size ≤ 1048576)
    (hi0 : -9223372036854775808 ≤ a2) (hi1 : a2 ≤ 9223372036854775807) (hl : l.length ≤ 1048576) (ht : totG l ≤ 1048576) : impl_writeHead.f a0 a1 a2 a3 a4 l a6 = some (mkB (headT a0 a1 a2 a3 a4 l a6)) := by
  have hf := fldsT_len l
  have hsm : impl_writeHead.small a0 a1 a2 a3 l a6 := by
    unfold impl_writeHead.small
    rw [wflds_is]
    exact ⟨by omega, by omega, by omega, by omega, hi0, hi1, by omega, by omega, by have := itoa_len a2 hi0 hi1; omega, by have := itoa_len (a6.size : Int) (by omega) (by omega); omega⟩
  unfold impl_writeHead.f
  rw [if_pos hsm, wflds_is]
  congr 1
  have hfirst : (impl_writeHead_first a0 a1 a2 a3).data.toList = firstT a0 a1 a2 a3 := by
    show bl (impl_writeHead_first a0 a1 a2 a3) = _
    unfold impl_writeHead_first firstT
    rw [toList_bl]
    split
    · rw [bl_app, bl_app, bl_app, bl_app]; rfl
    · rw [bl_app, bl_app, bl_app, bl_app]
      show bl a0 ++ [32] ++ bl a1 ++ [32, 72, 84, 84, 80, 47, 49, 46, 49] ++ [13, 10] = _
      simp
  have hcl : impl_writeHead_cl a0 a6 a4 = lenT a0 a6 a4 := by
    unfold impl_writeHead_cl impl_writeHead_says lenT
    rw [toList_bl, toList_bl]
    by_cases hh : (if bl a0 = [] then !a4 else !decide (bl a6 = [])) = true
    · rw [if_pos hh, if_pos hh]
      show bl (_ ++ _ ++ _) = _
      rw [bl_app, bl_app]; rfl
    · rw [if_neg hh, if_neg hh]
  rw [hfirst, hcl]
  show mkB _ ++ mkB crB = _
  rw [mk_append]; rfl
theorem specFieldText_is (x : IFld) (hk : fldOk x = true) (hs : smallF x) : Ev (fun k => spec_FieldText.f k x.f0 x.f1) (mkB (fldT x)) := by
  unfold spec_FieldText.f
  refine (specFieldOk_is x.f0 x.f1).bind ?_
  have hk2 : fieldL (bl x.f0) (bl x.f1) = true := hk
  have e1 : (x.f0 ++ (⟨#[58, 32]⟩ : ByteArray)).size = x.f0.size + 2 := by rw [ByteArray.size_append]; rfl
  have hs1 := hs.1
  have hs2 := hs.2
  simp only [hk2, if_true, if_pos (show x.f0.size + 2 ≤ 9223372036854775807 by omega), if_pos (show (x.f0 ++ (⟨#[58, 32]⟩ : ByteArray)).size + x.f1.size ≤ 9223372036854775807 by rw [e1]; omega)]
  have e : x.f0 ++ (⟨#[58, 32]⟩ : ByteArray) ++ x.f1 = mkB (fldT x) := by
    rw [← mk_bl (x.f0 ++ (⟨#[58, 32]⟩ : ByteArray) ++ x.f1), bl_app, bl_app]; rfl
  rw [e]; exact Ev.now _
theorem dec_itoa (n : Nat) : Lib.itoa (n : Int) = Lib.decDigits n := by unfold Lib.itoa; rw [if_neg (by omega), Int.toNat_natCast]
theorem specHead_go (a0 a1 : ByteArray) (a2 : Int) (a3 : ByteArray) (a4 : Bool) (a6 : ByteArray) (h6 : a6.size ≤ 1048576) : ∀ (r pre : List IFld) (al : List UInt8), (∀ x ∈ r, fldOk x = true) → (∀ x ∈ r, smallF x) → (pre ++ r).length ≤ 1048576 → al.length + (fldsT r).length ≤ 1099511627776 →
    Ev (fun k => spec_l6head.l0 k (mkB al) pre.length a0 a1 a2 a3 a4 (pre ++ r) a6) (mkB (al ++ fldsT r ++ lenT a0 a6 a4 ++ crB))
  | [], pre, al, _, _, hl, ha => by
    have ha' : al.length ≤ 1099511627776 := by simpa [fldsT] using ha
    have cr : (⟨#[13, 10]⟩ : ByteArray) = mkB crB := rfl
    have cl : (⟨#[67, 111, 110, 116, 101, 110, 116, 45, 76, 101, 110, 103, 116, 104, 58, 32]⟩ : ByteArray) = mkB [67, 111, 110, 116, 101, 110, 116, 45, 76, 101, 110, 103, 116, 104, 58, 32] := rfl
    have hcr : crB.length = 2 := rfl
    have hends : ∀ (m : List UInt8), m.length ≤ 1099511627876 → ((mkB m).size + 2 ≤ 9223372036854775807) := by intro m hm; rw [size_mk]; omega
    obtain ⟨G, hG⟩ : ∃ G : Nat → Option ByteArray, G = (fun k => (if (mkB al).size + 16 ≤ 9223372036854775807 then ((spec_DecText.f k (a6.size : Int)).bind fun t166 => (if ((mkB al) ++ (⟨#[67, 111, 110, 116, 101, 110, 116, 45, 76, 101, 110, 103, 116, 104, 58, 32]⟩ : ByteArray)).size + t166.size ≤ 9223372036854775807 then (if (((mkB al) ++ (⟨#[67, 111, 110, 116, 101, 110, 116, 45, 76, 101, 110, 103, 116, 104, 58, 32]⟩ : ByteArray)) ++ t166).size + 2 ≤ 9223372036854775807 then (if ((((mkB al) ++ (⟨#[67, 111, 110, 116, 101, 110, 116, 45, 76, 101, 110, 103, 116, 104, 58, 32]⟩ : ByteArray)) ++ t166) ++ (⟨#[13, 10]⟩ : ByteArray)).size + 2 ≤ 9223372036854775807 then (some (((((mkB al) ++ (⟨#[67, 111, 110, 116, 101, 110, 116, 45, 76, 101, 110, 103, 116, 104, 58, 32]⟩ : ByteArray)) ++ t166) ++ (⟨#[13, 10]⟩ : ByteArray)) ++ (⟨#[13, 10]⟩ : ByteArray))) else (none)) else (none)) else (none))) else (none))) := ⟨_, rfl⟩
    have hlen : 
        Ev G (mkB (al ++ ([67, 111, 110, 116, 101, 110, 116, 45, 76, 101, 110, 103, 116, 104, 58, 32] ++ Lib.itoa (a6.size : Int) ++ crB) ++ crB)) := by
      rw [hG]
      have hd : (Lib.decDigits a6.size).length ≤ 15 := by rw [Lib.decDigits_length]; exact nDigits_le15 _ (by omega)
      simp only [if_pos (show (mkB al).size + 16 ≤ 9223372036854775807 by rw [size_mk]; omega)]
      refine (specDec_is a6.size (by omega)).bind ?_
      simp only [cl, cr, mk_append, size_mk]
      rw [if_pos (by simp; omega), if_pos (by simp; omega), if_pos (by simp [crB]; omega), dec_itoa]
      have e : al ++ [67, 111, 110, 116, 101, 110, 116, 45, 76, 101, 110, 103, 116, 104, 58, 32] ++ Lib.decDigits a6.size ++ crB ++ crB = al ++ ([67, 111, 110, 116, 101, 110, 116, 45, 76, 101, 110, 103, 116, 104, 58, 32] ++ Lib.decDigits a6.size ++ crB) ++ crB := by simp
      rw [e]; exact Ev.now _
    have hnot : ((mkB al).size + 2 ≤ 9223372036854775807) := hends al (by omega)
    have ecr : mkB al ++ (⟨#[13, 10]⟩ : ByteArray) = mkB (al ++ crB) := by rw [cr, mk_append]
    have hz : fldsT ([] : List IFld) = [] := rfl
    have hn : ¬ ((pre.length : Int) < (pre.length : Int)) := by omega
    rw [hz, List.append_nil, List.append_nil]
    unfold lenT
    by_cases c0 : bl a0 = []
    · by_cases c4 : a4 = true
      · refine Ev.step (f := fun _ => some (mkB (al ++ crB))) (fun k => ?_) (by rw [if_pos c0, c4]; simpa using Ev.now (mkB (al ++ crB)))
        simp only [spec_l6head.l0]
        rw [if_neg hn, toList_bl, if_pos c0, if_pos c4, if_pos hnot, ecr]
      · refine Ev.step (f := G) (fun k => ?_) (by rw [if_pos c0, if_pos (by simpa using c4)]; exact hlen)
        simp only [spec_l6head.l0]
        rw [if_neg hn, toList_bl, if_pos c0, if_neg c4, hG]
    · by_cases c6 : bl a6 = []
      · refine Ev.step (f := fun _ => some (mkB (al ++ crB))) (fun k => ?_) (by rw [if_neg c0, if_neg (by simp [c6])]; simpa using Ev.now (mkB (al ++ crB)))
        simp only [spec_l6head.l0]
        rw [if_neg hn, toList_bl, if_neg c0, toList_bl, if_pos c6]
        rw [if_pos hnot, ecr]
      · refine Ev.step (f := G) (fun k => ?_) (by rw [if_neg c0, if_pos (by simp [c6])]; exact hlen)
        simp only [spec_l6head.l0]
        rw [if_neg hn, toList_bl, if_neg c0, toList_bl, if_neg c6, hG]
  | x :: r, pre, al, hk, ho, hl, ha => by
    have hx := ho x (by simp)
    have hkx := hk x (by simp)
    have h1 : fldsT (x :: r) = fldT x ++ crB ++ fldsT r := by simp [fldsT]
    have cr : (⟨#[13, 10]⟩ : ByteArray) = mkB crB := rfl
    have hcr : crB.length = 2 := rfl
    rw [h1, List.length_append, List.length_append, hcr] at ha
    have ih := specHead_go a0 a1 a2 a3 a4 a6 h6 r (pre ++ [x]) (al ++ fldT x ++ crB) (fun y hy => hk y (List.mem_cons_of_mem _ hy)) (fun y hy => ho y (List.mem_cons_of_mem _ hy)) (by rw [← app_mid]; exact hl) (by simp [hcr]; omega)
    rw [← app_mid, len_snoc] at ih
    have e : al ++ fldsT (x :: r) ++ lenT a0 a6 a4 ++ crB = al ++ fldT x ++ crB ++ fldsT r ++ lenT a0 a6 a4 ++ crB := by rw [h1]; simp
    rw [e]
    have hw : wrap64 ((pre.length : Int) + 1) = (pre.length : Int) + 1 := by simp at hl; exact wrap_id (by omega) (by omega)
    have hb := (specFieldText_is x hkx hx).bind (f := fun k (t : ByteArray) => if (mkB al).size + t.size ≤ 9223372036854775807 then (if ((mkB al) ++ t).size + 2 ≤ 9223372036854775807 then (spec_l6head.l0 k (((mkB al) ++ t) ++ (⟨#[13, 10]⟩ : ByteArray)) ((pre.length : Int) + 1) a0 a1 a2 a3 a4 (pre ++ x :: r) a6) else none) else none) (by
      simp only [cr, mk_append, size_mk]
      simp only [if_pos (show al.length + (fldT x).length ≤ 9223372036854775807 by omega), if_pos (show (al ++ fldT x).length + 2 ≤ 9223372036854775807 by rw [List.length_append]; omega)]
      exact ih)
    refine Ev.step (fun k => ?_) hb
    simp only [spec_l6head.l0]
    rw [if_pos (len_mid ..), if_pos (by omega)]
    simp only [rd_T76, getD_mid, hw]
theorem specHead_is (a0 a1 : ByteArray) (a2 : Int) (a3 : ByteArray) (a4 : Bool) (l : List IFld) (a6 : ByteArray) (h0 : a0.size ≤ 1048576) (h1 : a1.size ≤ 1048576) (h3 : a3.size ≤ 1048576) (h6 : a6.size ≤ 1048576)
    (hs : bl a0 = [] → 0 ≤ a2 ∧ a2 ≤ 999999) (hl : l.length ≤ 1048576) (ht : totG l ≤ 1048576) (hk : ∀ x ∈ l, fldOk x = true) (ho : ∀ x ∈ l, smallF x) : Ev (fun k => spec_l6head.f k a0 a1 a2 a3 a4 l a6) (mkB (headT a0 a1 a2 a3 a4 l a6)) := by
  have hf := fldsT_len l
  have go : ∀ al : List UInt8, al.length ≤ 99511627776 → Ev (fun k => spec_l6head.j0 k (mkB al) a0 a1 a2 a3 a4 l a6) (mkB (al ++ fldsT l ++ lenT a0 a6 a4 ++ crB)) := by
    intro al ha
    refine Ev.step (f := fun k => spec_l6head.l0 k (mkB al) 0 a0 a1 a2 a3 a4 l a6) (fun k => by simp only [spec_l6head.j0]) ?_
    exact specHead_go a0 a1 a2 a3 a4 a6 h6 l [] al hk ho (by simpa using hl) (by omega)
  unfold spec_l6head.f headT firstT
  have b0 : (a0 ++ (⟨#[32]⟩ : ByteArray)).size = a0.size + 1 := by rw [ByteArray.size_append]; rfl
  have b1 : (a0 ++ (⟨#[32]⟩ : ByteArray) ++ a1).size = a0.size + 1 + a1.size := by rw [ByteArray.size_append, b0]
  simp only [if_pos (show a0.size + 1 ≤ 9223372036854775807 by omega), if_pos (show (a0 ++ (⟨#[32]⟩ : ByteArray)).size + a1.size ≤ 9223372036854775807 by rw [b0]; omega), if_pos (show (a0 ++ (⟨#[32]⟩ : ByteArray) ++ a1).size + 11 ≤ 9223372036854775807 by rw [b1]; omega), toList_bl]
  by_cases c0 : bl a0 = []
  · simp only [if_pos c0]
    obtain ⟨n, rfl⟩ : ∃ n : Nat, a2 = n := ⟨a2.toNat, by have := hs c0; omega⟩
    have hn : n ≤ 999999 := by have := hs c0; omega
    have hd : (Lib.decDigits n).length ≤ 15 := by rw [Lib.decDigits_length]; exact nDigits_le15 _ (by omega)
    refine (specDec_is n (by omega)).bind ?_
    have k1 : (⟨#[72, 84, 84, 80, 47, 49, 46, 49, 32]⟩ : ByteArray) = mkB [72, 84, 84, 80, 47, 49, 46, 49, 32] := rfl
    have k2 : (⟨#[32]⟩ : ByteArray) = mkB [32] := rfl
    have k3 : (⟨#[13, 10]⟩ : ByteArray) = mkB crB := rfl
    have k4 : a3 = mkB (bl a3) := (mk_bl a3).symm
    have hb3 : (bl a3).length = a3.size := size_bl a3
    rw [k4, k1, k2, k3]
    simp only [mk_append, size_mk, bl_mk]
    simp only [if_pos (show 9 + (Lib.decDigits n).length ≤ 9223372036854775807 by omega), if_pos (show ([72, 84, 84, 80, 47, 49, 46, 49, 32] ++ Lib.decDigits n).length + 1 ≤ 9223372036854775807 by simp; omega),
      if_pos (show ([72, 84, 84, 80, 47, 49, 46, 49, 32] ++ Lib.decDigits n ++ [32]).length + (bl a3).length ≤ 9223372036854775807 by simp; omega), if_pos (show ([72, 84, 84, 80, 47, 49, 46, 49, 32] ++ Lib.decDigits n ++ [32] ++ bl a3).length + 2 ≤ 9223372036854775807 by simp; omega), dec_itoa]
    have := go ([72, 84, 84, 80, 47, 49, 46, 49, 32] ++ Lib.decDigits n ++ [32] ++ bl a3 ++ crB) (by simp [crB]; omega)
    rw [k4] at this
    simpa only [bl_mk] using this
  · simp only [if_neg c0]
    have k2 : a0 ++ (⟨#[32]⟩ : ByteArray) ++ a1 ++ (⟨#[32, 72, 84, 84, 80, 47, 49, 46, 49, 13, 10]⟩ : ByteArray) = mkB (bl a0 ++ [32] ++ bl a1 ++ [32, 72, 84, 84, 80, 47, 49, 46, 49, 13, 10]) := by
      rw [← mk_bl (a0 ++ (⟨#[32]⟩ : ByteArray) ++ a1 ++ (⟨#[32, 72, 84, 84, 80, 47, 49, 46, 49, 13, 10]⟩ : ByteArray)), bl_app, bl_app, bl_app]; rfl
    rw [k2]
    exact go (bl a0 ++ [32] ++ bl a1 ++ [32, 72, 84, 84, 80, 47, 49, 46, 49, 13, 10]) (by simp [size_bl]; omega)

/-! #### MsgOk -/
structure SmallM (a0 a1 : ByteArray) (a2 : Int) (a3 : ByteArray) (l : List IFld) (a6 : ByteArray) : Prop where
  h0 : a0.size ≤ 1048576
  h1 : a1.size ≤ 1048576
  h3 : a3.size ≤ 1048576
  h6 : a6.size ≤ 1048576
  i0 : -9223372036854775808 ≤ a2
  i1 : a2 ≤ 9223372036854775807
  hl : l.length ≤ 1048576
  ht : totG l ≤ 1048576
def lineL (a0 a1 : ByteArray) (a2 : Int) (a3 : ByteArray) (a4 : Bool) (a6 : ByteArray) : Bool := if bl a0 = [] then ansL a1 a2 a3 a4 a6 else reqL a0 a1 a2 a3 a4
def msgOk (a0 a1 : ByteArray) (a2 : Int) (a3 : ByteArray) (a4 : Bool) (l : List IFld) (a6 : ByteArray) : Bool :=
  fldsOk l && !decide (l.length = 20) && !framedB l && decide (a6.size ≤ 600) && (lineL a0 a1 a2 a3 a4 a6 && decide ((headT a0 a1 a2 a3 a4 l a6).length ≤ 1500))
theorem ansL_status {a1 : ByteArray} {a2 : Int} {a3 : ByteArray} {a4 : Bool} {a6 : ByteArray} (h : ansL a1 a2 a3 a4 a6 = true) : 200 ≤ a2 ∧ a2 ≤ 599 := by
  unfold ansL at h
  simp only [Bool.and_eq_true, decide_eq_true_eq] at h
  exact h.1.1.2
theorem lineL_status {a0 a1 : ByteArray} {a2 : Int} {a3 : ByteArray} {a4 : Bool} {a6 : ByteArray} (h : lineL a0 a1 a2 a3 a4 a6 = true) : bl a0 = [] → 0 ≤ a2 ∧ a2 ≤ 999999 := by
  intro h0
  unfold lineL at h
  rw [if_pos h0] at h
  have := ansL_status h
  omega
theorem fldsOk_all {l : List IFld} (h : fldsOk l = true) : ∀ x ∈ l, fldOk x = true := by
  unfold fldsOk at h
  simp only [Bool.and_eq_true, List.all_eq_true] at h
  exact h.2
theorem specMsgOk_is (a0 a1 : ByteArray) (a2 : Int) (a3 : ByteArray) (a4 : Bool) (l : List IFld) (a6 : ByteArray) (S : SmallM a0 a1 a2 a3 l a6) : Ev (fun k => spec_MsgOk.f k a0 a1 a2 a3 a4 l a6) (msgOk a0 a1 a2 a3 a4 l a6) := by
  have ho := smallF_totG l S.ht
  have hj : Ev (fun k => spec_MsgOk.j0 k true a0 a1 a2 a3 a4 l a6) false := Ev.step (f := fun _ => some false) (fun k => by simp only [spec_MsgOk.j0, if_true]) (Ev.now _)
  unfold spec_MsgOk.f msgOk
  refine (specFieldsOk_is l).bind ?_
  cases hk : fldsOk l
  · simpa using hj
  simp only [if_true, Bool.true_and]
  by_cases h20 : l.length = 20
  · simp only [if_pos (show (l.length : Int) = 20 by omega), decide_eq_true h20, Bool.not_true, Bool.false_and]; exact hj
  simp only [if_neg (show ¬ (l.length : Int) = 20 by omega), decide_eq_false h20, Bool.not_false, Bool.true_and]
  refine (specFramed_is l ho S.hl).bind ?_
  cases hfr : framedB l
  · simp only [Bool.false_eq_true, if_false, Bool.not_false, Bool.true_and]
    by_cases h6 : a6.size ≤ 600
    · simp only [decide_eq_true h6, Bool.true_and, decide_eq_false (show ¬ (a6.size : Int) > 600 by omega)]
      have hhead : lineL a0 a1 a2 a3 a4 a6 = true → Ev (fun k => (spec_l6head.f k a0 a1 a2 a3 a4 l a6).bind fun t => some (decide ((t.size : Int) ≤ 1500))) (decide ((headT a0 a1 a2 a3 a4 l a6).length ≤ 1500)) := by
        intro hL
        refine (specHead_is a0 a1 a2 a3 a4 l a6 S.h0 S.h1 S.h3 S.h6 (lineL_status hL) S.hl S.ht (fldsOk_all hk) ho).bind ?_
        rw [size_mk]
        have : decide (((headT a0 a1 a2 a3 a4 l a6).length : Int) ≤ 1500) = decide ((headT a0 a1 a2 a3 a4 l a6).length ≤ 1500) := decide_eq_decide.2 (by omega)
        rw [this]; exact Ev.now _
      have hlineE : Ev (fun k => if bl a0 = [] then spec_l6answer.f k a0 a1 a2 a3 a4 l a6 else spec_l6request.f k a0 a1 a2 a3 a4 l a6) (lineL a0 a1 a2 a3 a4 a6) := by
        unfold lineL
        by_cases c0 : bl a0 = []
        · simp only [if_pos c0]; exact specAnswer_is a0 a1 a2 a3 a4 l a6 S.h3
        · simp only [if_neg c0]; exact specRequest_is a0 a1 a2 a3 a4 l a6 S.h0 S.h1
      have hbody := hlineE.bind (f := fun k (t : Bool) => if t = true then ((spec_l6head.f k a0 a1 a2 a3 a4 l a6).bind fun t => some (decide ((t.size : Int) ≤ 1500))) else some false) (r := lineL a0 a1 a2 a3 a4 a6 && decide ((headT a0 a1 a2 a3 a4 l a6).length ≤ 1500)) (by
        cases hL : lineL a0 a1 a2 a3 a4 a6
        · simpa using Ev.now false
        · simpa using hhead hL)
      refine Ev.step (fun k => ?_) hbody
      simp only [spec_MsgOk.j0, Bool.false_eq_true, if_false, toList_bl]
      by_cases c0 : bl a0 = []
      · simp only [if_pos c0]
      · simp only [if_neg c0]
    · simp only [decide_eq_false h6, Bool.false_and, decide_eq_true (show (a6.size : Int) > 600 by omega)]; exact hj
  · simpa using hj
theorem within_and (n a b : Int) : impl_within.f n a b = some (decide (a ≤ n) && decide (n ≤ b)) := by
  unfold impl_within.f
  by_cases h : a ≤ n
  · rw [if_pos h, decide_eq_true h, Bool.true_and]
  · rw [if_neg h, decide_eq_false h, Bool.false_and]
theorem implLine_is (a0 a1 : ByteArray) (a2 : Int) (a3 : ByteArray) (a4 : Bool) (l : List IFld) (a6 : ByteArray) (S : SmallM a0 a1 a2 a3 l a6) (ns : List ByteArray) :
    Ev (fun k => impl_MsgOk.l0 k ns 3 3 a0 a1 a2 a3 a4 l a6) (lineL a0 a1 a2 a3 a4 a6 && decide ((headT a0 a1 a2 a3 a4 l a6).length ≤ 1500)) := by
  have hw := writeHead_is a0 a1 a2 a3 a4 l a6 S.h0 S.h1 S.h3 S.h6 S.i0 S.i1 S.hl S.ht
  have hd : decide (((mkB (headT a0 a1 a2 a3 a4 l a6)).size : Int) ≤ 1500) = decide ((headT a0 a1 a2 a3 a4 l a6).length ≤ 1500) := by rw [size_mk]; exact decide_eq_decide.2 (by omega)
  unfold lineL
  by_cases c0 : bl a0 = []
  · rw [if_pos c0]
    unfold ansL
    by_cases c1 : bl a1 = []
    · rw [decide_eq_true c1, Bool.true_and]
      cases hS : (decide (200 ≤ a2) && decide (a2 ≤ 599))
      · refine Ev.step (f := fun _ => some false) (fun k => ?_) (by simpa using Ev.now false)
        simp only [impl_MsgOk.l0, toList_bl, if_pos c0, if_pos c1, impl_isStatus.f, within_and, hS, Option.bind_some]
        simp
      · rw [Bool.true_and]
        by_cases c3 : a3.size ≤ 40
        · rw [decide_eq_true c3, Bool.true_and]
          refine Ev.step (f := fun k => (impl_all__impl_isPlain.f k a3).bind fun t => if t = true then (if a4 = true then (if bl a6 = [] then some (decide ((headT a0 a1 a2 a3 a4 l a6).length ≤ 1500)) else some false) else (if bareS a2 = true then some false else some (decide ((headT a0 a1 a2 a3 a4 l a6).length ≤ 1500)))) else some false) (fun k => ?_) ?_
          · simp only [impl_MsgOk.l0, toList_bl, if_pos c0, if_pos c1, impl_isStatus.f, within_and, hS, Option.bind_some, if_true, impl_isReason.f, if_pos (show (a3.size : Int) ≤ 40 by omega), hw, hd]
            rw [if_neg (by omega)]
            have hb : impl_isBareStatus.f a2 = some (bareS a2) := by
              unfold impl_isBareStatus.f bareS
              by_cases h : a2 = 204
              · rw [if_pos h, decide_eq_true h, Bool.true_or]
              · rw [if_neg h, decide_eq_false h, Bool.false_or]
                have : (a2 == 304) = decide (a2 = 304) := by by_cases h : a2 = 304 <;> simp [h]
                rw [this]
            simp only [hb, Option.bind_some, ite_self]
            cases impl_all__impl_isPlain.f k a3 <;> rfl
          · refine (implAllPlain_is a3 (by have := S.h3; omega)).bind ?_
            cases (bl a3).all plB
            · simpa using Ev.now false
            · simp only [if_true, Bool.true_and]
              cases a4
              · simp only [Bool.false_eq_true, if_false]
                cases bareS a2
                · simpa using Ev.now _
                · simpa using Ev.now false
              · simp only [if_true]
                by_cases c6 : bl a6 = []
                · simp only [if_pos c6, decide_eq_true c6, Bool.true_and]; exact Ev.now _
                · simp only [if_neg c6, decide_eq_false c6, Bool.false_and]; exact Ev.now _
        · rw [decide_eq_false c3]
          refine Ev.step (f := fun _ => some false) (fun k => ?_) (by simpa using Ev.now false)
          simp only [impl_MsgOk.l0, toList_bl, if_pos c0, if_pos c1, impl_isStatus.f, within_and, hS, Option.bind_some, if_true, impl_isReason.f, if_neg (show ¬ (a3.size : Int) ≤ 40 by omega)]
          simp
    · rw [decide_eq_false c1]
      refine Ev.step (f := fun _ => some false) (fun k => ?_) (by simpa using Ev.now false)
      simp only [impl_MsgOk.l0, toList_bl, if_pos c0, if_neg c1]
      simp
  · rw [if_neg c0]
    unfold reqL
    have hm : Ev (fun k => impl_isMethod.f k a0) (decide (a0.size ≤ 20) && tokenL (bl a0)) := by
      unfold impl_isMethod.f
      refine (implToken_is a0).bind ?_
      cases tokenL (bl a0)
      · simpa using Ev.now false
      · simp only [if_true, Bool.and_true]
        have : decide ((a0.size : Int) ≤ 20) = decide (a0.size ≤ 20) := decide_eq_decide.2 (by omega)
        rw [this]; exact Ev.now _
    have ht : Ev (fun k => impl_isTarget.f k a1) (decide (1 ≤ a1.size) && decide (a1.size ≤ 200) && (bl a1).all visB) := by
      unfold impl_isTarget.f
      have e : (decide ((1 : Int) ≤ (a1.size : Int)) && decide ((a1.size : Int) ≤ 200)) = (decide (1 ≤ a1.size) && decide (a1.size ≤ 200)) := by
        congr 1
        · exact decide_eq_decide.2 (by omega)
        · exact decide_eq_decide.2 (by omega)
      simp only [within_and, e, Option.bind_some]
      cases (decide (1 ≤ a1.size) && decide (a1.size ≤ 200))
      · simpa using Ev.now false
      · simp only [if_true, Bool.true_and]
        exact (implAllVis_is a1 (by have := S.h1; omega)).bind (Ev.now _)
    refine Ev.step (f := fun k => (impl_isMethod.f k a0).bind fun t => if t = true then ((impl_isTarget.f k a1).bind fun t2 => if t2 = true then (if a2 = 0 then (if bl a3 = [] then (if a4 = true then some false else some (decide ((headT a0 a1 a2 a3 a4 l a6).length ≤ 1500))) else some false) else some false) else some false) else some false) (fun k => ?_) ?_
    · simp only [impl_MsgOk.l0, toList_bl, if_neg c0, hw, hd, Option.bind_some]
      rw [if_neg (by omega)]
    · refine hm.bind ?_
      cases (decide (a0.size ≤ 20) && tokenL (bl a0))
      · simpa using Ev.now false
      simp only [if_true, Bool.true_and]
      refine ht.bind ?_
      cases (decide (1 ≤ a1.size) && decide (a1.size ≤ 200) && (bl a1).all visB)
      · simpa using Ev.now false
      simp only [if_true, Bool.true_and]
      by_cases c2 : a2 = 0
      · simp only [if_pos c2, decide_eq_true c2, Bool.true_and]
        by_cases c3 : bl a3 = []
        · simp only [if_pos c3, decide_eq_true c3, Bool.true_and]
          cases a4
          · simpa using Ev.now _
          · simpa using Ev.now false
        · simp only [if_neg c3, decide_eq_false c3, Bool.false_and]; exact Ev.now _
      · simp only [if_neg c2, decide_eq_false c2, Bool.false_and]; exact Ev.now _
theorem implMsgOk_is (a0 a1 : ByteArray) (a2 : Int) (a3 : ByteArray) (a4 : Bool) (l : List IFld) (a6 : ByteArray) (S : SmallM a0 a1 a2 a3 l a6) : Ev (fun k => impl_MsgOk.f k a0 a1 a2 a3 a4 l a6) (msgOk a0 a1 a2 a3 a4 l a6) := by
  have ho := smallF_totG l S.ht
  have hj : Ev (fun k => impl_MsgOk.j0 k true a0 a1 a2 a3 a4 l a6) false := Ev.step (f := fun _ => some false) (fun k => by simp only [impl_MsgOk.j0, if_true]) (Ev.now _)
  unfold impl_MsgOk.f msgOk
  refine (implFieldsOk_is l).bind ?_
  cases hk : fldsOk l
  · simpa using hj
  have hl20 : l.length ≤ 20 := by
    unfold fldsOk at hk
    simp only [Bool.and_eq_true, decide_eq_true_eq] at hk
    exact hk.1
  simp only [if_true, Bool.true_and]
  by_cases h20 : l.length = 20
  · simp only [if_pos (show (l.length : Int) ≥ 20 by omega), decide_eq_true h20, Bool.not_true, Bool.false_and]; exact hj
  simp only [if_neg (show ¬ (l.length : Int) ≥ 20 by omega), decide_eq_false h20, Bool.not_false, Bool.true_and]
  by_cases h6 : a6.size ≤ 600
  · simp only [decide_eq_true h6, Bool.and_true, decide_eq_false (show ¬ (a6.size : Int) > 600 by omega)]
    have hnames : impl_framed.f = some [mkB lCL, mkB lTE, mkB lTR] := rfl
    have hstep : ∀ (i : Nat) (n : List UInt8) (v : Bool), i < 3 → rdOf ByteArray.empty [mkB lCL, mkB lTE, mkB lTR] (i : Int) = mkB n → lowS (mkB n) = mkB n → n.length ≤ 1048576 → Ev (fun k => impl_MsgOk.l0 k [mkB lCL, mkB lTE, mkB lTR] 3 ((i : Int) + 1) a0 a1 a2 a3 a4 l a6) v →
        Ev (fun k => impl_MsgOk.l0 k [mkB lCL, mkB lTE, mkB lTR] 3 (i : Int) a0 a1 a2 a3 a4 l a6) (!l.any (isN n) && v) := by
      intro i n v hi hr hn hn2 hv
      have hb := (hasField_is l n hn hn2 S.hl ho hk).bind (f := fun k (t : Bool) => if t = true then some false else impl_MsgOk.l0 k [mkB lCL, mkB lTE, mkB lTR] 3 ((i : Int) + 1) a0 a1 a2 a3 a4 l a6) (r := !l.any (isN n) && v) (by
        cases l.any (isN n)
        · simpa using hv
        · simpa using Ev.now false)
      refine Ev.step (fun k => ?_) hb
      simp only [impl_MsgOk.l0]
      rw [if_pos (by omega), if_pos (by omega), if_pos (by simp; omega), hr, wrap_id (by omega) (by omega)]
    have h3 := implLine_is a0 a1 a2 a3 a4 l a6 S [mkB lCL, mkB lTE, mkB lTR]
    have h2 := hstep 2 lTR _ (by omega) rfl low_TR (by decide) h3
    have h1 := hstep 1 lTE _ (by omega) rfl low_TE (by decide) h2
    have h0 := hstep 0 lCL _ (by omega) rfl low_CL (by decide) h1
    refine Ev.step (f := fun k => impl_MsgOk.l0 k [mkB lCL, mkB lTE, mkB lTR] 3 0 a0 a1 a2 a3 a4 l a6) (fun k => by simp only [impl_MsgOk.j0, Bool.false_eq_true, if_false, hnames, Option.bind_some]; rfl) ?_
    have e : (!framedB l && (lineL a0 a1 a2 a3 a4 a6 && decide ((headT a0 a1 a2 a3 a4 l a6).length ≤ 1500))) = (!l.any (isN lCL) && (!l.any (isN lTE) && (!l.any (isN lTR) && (lineL a0 a1 a2 a3 a4 a6 && decide ((headT a0 a1 a2 a3 a4 l a6).length ≤ 1500))))) := by
      unfold framedB
      cases l.any (isN lCL) <;> cases l.any (isN lTE) <;> cases l.any (isN lTR) <;> simp
    rw [e]
    exact h0
  · simp only [decide_eq_false h6, Bool.and_false, Bool.false_and, decide_eq_true (show (a6.size : Int) > 600 by omega)]; exact hj
/-! the law's own helpers -/
theorem wf_int {a : Int} (h : (Lit.int .i64 a).wf = true) : -9223372036854775808 ≤ a ∧ a ≤ 9223372036854775807 := by
  simp only [Lit.wf, Bool.and_eq_true, decide_eq_true_eq] at h
  exact ⟨h.1, h.2⟩
theorem szMsg_is (a0 a1 : ByteArray) (a2 : Int) (a3 : ByteArray) (a4 : Bool) (l : List LFld) (a6 : ByteArray) (b0 : a0.size ≤ 9223372036854775807) (b1 : a1.size ≤ 9223372036854775807) (b3 : a3.size ≤ 9223372036854775807) (b6 : a6.size ≤ 9223372036854775807) (hl : l.length ≤ 9223372036854775807) (hb : ∀ x ∈ l, ok74 x) :
    ∃ q, Ev (fun k => laws_szMsg.f k a0 a1 a2 a3 a4 l a6 1048576) q ∧ (0 ≤ q → a0.size ≤ 1048576 ∧ a1.size ≤ 1048576 ∧ a3.size ≤ 1048576 ∧ a6.size ≤ 1048576 ∧ l.length ≤ 1048576 ∧ (l.map wFld).sum ≤ 1048576) := by
  unfold laws_szMsg.f
  rw [wrap_id (a := 1048576 - (a0.size : Int)) (by omega) (by omega)]
  by_cases c0 : 1048576 - (a0.size : Int) < 0
  · exact ⟨-1, by simp only [if_pos c0]; exact Ev.now _, fun h => by omega⟩
  simp only [if_neg c0]
  rw [wrap_id (a := 1048576 - (a0.size : Int) - (a1.size : Int)) (by omega) (by omega)]
  by_cases c1 : 1048576 - (a0.size : Int) - (a1.size : Int) < 0
  · exact ⟨-1, by simp only [if_pos c1]; exact Ev.now _, fun h => by omega⟩
  simp only [if_neg c1]
  rw [wrap_id (a := 1048576 - (a0.size : Int) - (a1.size : Int) - (a3.size : Int)) (by omega) (by omega)]
  by_cases c3 : 1048576 - (a0.size : Int) - (a1.size : Int) - (a3.size : Int) < 0
  · exact ⟨-1, by simp only [if_pos c3]; exact Ev.now _, fun h => by omega⟩
  simp only [if_neg c3]
  obtain ⟨q, hq, hle, hs⟩ := szFieldS_is l (1048576 - (a0.size : Int) - (a1.size : Int) - (a3.size : Int)) hb hl (by omega) (by omega)
  by_cases cq : q < 0
  · exact ⟨-1, hq.bind (by simp only [if_pos cq]; exact Ev.now _), fun h => by omega⟩
  have hss := hs (by omega)
  by_cases c6 : q - (a6.size : Int) < 0
  · refine ⟨-1, hq.bind ?_, fun h => by omega⟩
    simp only [if_neg cq]
    rw [wrap_id (by omega) (by omega)]
    simp only [if_pos c6]; exact Ev.now _
  · refine ⟨q - (a6.size : Int), hq.bind ?_, fun h => by omega⟩
    simp only [if_neg cq]
    rw [wrap_id (by omega) (by omega)]
    simp only [if_neg c6]; exact Ev.now _
theorem toMsg_is (a0 a1 : ByteArray) (a2 : Int) (a3 : ByteArray) (a4 : Bool) (l : List LFld) (a6 : ByteArray) (hl : l.length ≤ 1048576) : Ev (fun k => laws_toMsg.f k a0 a1 a2 a3 a4 l a6) (a0, a1, a2, a3, a4, l.map cFld, a6) := by
  unfold laws_toMsg.f
  exact (toFieldS_is l hl).bind (Ev.now _)
theorem eqMsg_is (a0 a1 : ByteArray) (a2 : Int) (a3 : ByteArray) (a4 : Bool) (l : List IFld) (a6 : ByteArray) (hl : l.length ≤ 1048576) : Ev (fun k => laws_eqMsg.f k a0 a1 a2 a3 a4 l a6 a0 a1 a2 a3 a4 l a6) true := by
  unfold laws_eqMsg.f
  simp only [if_true, bne_self_eq_false, Bool.false_eq_true, if_false]
  refine (eqFieldS_is l hl).bind ?_
  simpa using Ev.now true

theorem FnExactWriteMsg : laws_FnExactWriteMsg.Pure := by
  intro a0 a1 a2 a3 a4 l a6 ⟨b0, b1, b2, b3, b4, ⟨hl, hb⟩, b6⟩
  obtain ⟨q, hq, hs⟩ := szMsg_is a0 a1 a2 a3 a4 l a6 b0 b1 b3 b6 hl hb
  refine Ev.rounds ?_
  unfold laws_FnExactWriteMsg.f
  refine hq.bind ?_
  by_cases h : q < 0
  · simp only [if_pos h]; exact Ev.now _
  simp only [if_neg h]
  obtain ⟨s0, s1, s3, s6, hl2, ht⟩ := hs (by omega)
  have S : SmallM a0 a1 a2 a3 (l.map cFld) a6 := ⟨s0, s1, s3, s6, (wf_int b2).1, (wf_int b2).2, by simpa using hl2, by rw [totG_conv]; exact ht⟩
  refine (toMsg_is a0 a1 a2 a3 a4 l a6 hl2).bind ?_
  refine Ev.bind (a := if msgOk a0 a1 a2 a3 a4 (l.map cFld) a6 = true then mkB (headT a0 a1 a2 a3 a4 (l.map cFld) a6) ++ a6 else (⟨#[]⟩ : ByteArray)) ?_ ?_
  · unfold spec_WriteMsg.f
    refine (specMsgOk_is _ _ _ _ _ _ _ S).bind ?_
    cases hm : msgOk a0 a1 a2 a3 a4 (l.map cFld) a6
    · simpa using Ev.now _
    · simp only [if_true]
      unfold msgOk at hm
      simp only [Bool.and_eq_true] at hm
      refine (specHead_is _ _ _ _ _ _ _ S.h0 S.h1 S.h3 S.h6 (lineL_status hm.2.1) S.hl S.ht (fldsOk_all hm.1.1.1.1) (smallF_totG _ S.ht)).bind ?_
      have hlen := of_decide_eq_true hm.2.2
      simp only [if_pos (show (mkB (headT a0 a1 a2 a3 a4 (l.map cFld) a6)).size + a6.size ≤ 9223372036854775807 by rw [size_mk]; omega)]
      exact Ev.now _
  refine (toMsg_is a0 a1 a2 a3 a4 l a6 hl2).bind ?_
  refine Ev.bind (a := if msgOk a0 a1 a2 a3 a4 (l.map cFld) a6 = true then mkB (headT a0 a1 a2 a3 a4 (l.map cFld) a6) ++ a6 else (⟨#[]⟩ : ByteArray)) ?_ ?_
  · unfold impl_WriteMsg.f
    refine (implMsgOk_is _ _ _ _ _ _ _ S).bind ?_
    cases hm : msgOk a0 a1 a2 a3 a4 (l.map cFld) a6
    · simpa using Ev.now _
    · simp only [if_true]
      have hw := writeHead_is a0 a1 a2 a3 a4 (l.map cFld) a6 S.h0 S.h1 S.h3 S.h6 S.i0 S.i1 S.hl S.ht
      unfold msgOk at hm
      simp only [Bool.and_eq_true] at hm
      have hlen := of_decide_eq_true hm.2.2
      rw [hw]
      simp only [Option.bind_some, if_pos (show (mkB (headT a0 a1 a2 a3 a4 (l.map cFld) a6)).size + a6.size ≤ 9223372036854775807 by rw [size_mk]; omega)]
      exact Ev.now _
  simp only [if_true]
  refine (toMsg_is a0 a1 a2 a3 a4 l a6 hl2).bind ?_
  refine (eqMsg_is a0 a1 a2 a3 a4 (l.map cFld) a6 (by simpa using hl2)).bind ?_
  simpa using Ev.now true

end Go.Proofs.YtnfjjbpochmhpaaDoor.Pure
