/- The fields that are sent on are those that the hop's names do not take out, in order; the call returns true for every code of a draw. No condition. -/
import Derived.Test.YtkkolioolgpljaaGreatGFnHopsx12
import Derived.Laws.BitsLemmas
import Derived.Laws.Strings
import Derived.Lib.Index
import Derived.Lib.IndexMore
import Derived.OpenShut
namespace Go.Proofs.YtkkolioolgpljaaGreat.Pure
open Go.RowKit Go.Proofs.YtkkolioolgpljaaGreat.GFnHops Go.Proofs.YtkkolioolgpljaaGreatW.PrintWords Go.Proofs.YtkkolioolgpljaaGreatW.PrintLast Go.Proofs.YtkkolioolgpljaaGreatW.PrintMore
set_option linter.unusedVariables false
set_option linter.unusedSimpArgs false

/-! #### Bytes -/
theorem toList_inj {a b : ByteArray} (h : a.toList = b.toList) : a = b := by
  rw [ByteArray.toList_eq, ByteArray.toList_eq] at h
  cases a; cases b; simp_all
theorem getD_mid {α : Type} (pre : List α) (x : α) (r : List α) (z : α) : (pre ++ x :: r).getD ((pre.length : Int).toNat) z = x := by simp [List.getD]
theorem wrap_id {a : Int} (h1 : -9223372036854775808 ≤ a) (h2 : a ≤ 9223372036854775807) : wrap64 a = a := by unfold wrap64; omega
theorem len_mid {α : Type} (pre : List α) (x : α) (r : List α) : (pre.length : Int) < ((pre ++ x :: r).length : Int) := by simp; omega
theorem app_mid {α : Type} (pre : List α) (x : α) (r : List α) : pre ++ x :: r = (pre ++ [x]) ++ r := by simp
theorem len_snoc {α : Type} (pre : List α) (x : α) : ((pre ++ [x]).length : Int) = (pre.length : Int) + 1 := by simp
theorem size_strOf (xs : List Int) : (strOfNums xs).size = xs.length := by
  show (strOfNums xs).data.size = _
  simp [strOfNums]
/-! #### Str -/
def mkB (l : List UInt8) : ByteArray := ⟨l.toArray⟩
def bl (s : ByteArray) : List UInt8 := s.data.toList
theorem mk_bl (s : ByteArray) : mkB (bl s) = s := by cases s; simp [mkB, bl]
theorem bl_mk (l : List UInt8) : bl (mkB l) = l := by simp [mkB, bl]
theorem size_mk (l : List UInt8) : (mkB l).size = l.length := by show (mkB l).data.size = _; simp [mkB]
theorem size_bl (s : ByteArray) : (bl s).length = s.size := by rw [bl, Array.length_toList]; rfl
theorem toList_bl (s : ByteArray) : s.toList = bl s := ByteArray.toList_eq s
theorem toList_mk (l : List UInt8) : (mkB l).toList = l := by rw [toList_bl, bl_mk]
theorem getB (l : List UInt8) (i : Nat) (h : i < (mkB l).size) : (mkB l)[i]'h = l[i]'(by rwa [size_mk] at h) := by
  show (mkB l).data[i]'h = _
  simp [mkB]
theorem bt_at_ (l : List UInt8) (i : Nat) (h : i < l.length) : bt (mkB l) (i : Int) = ((l[i]'h).toNat : Int) := by
  unfold bt
  rw [dif_pos (by rw [size_mk]; simpa using h), getB]
  simp
theorem bt_mid (pre : List UInt8) (b : UInt8) (r : List UInt8) : bt (mkB (pre ++ b :: r)) (pre.length : Int) = (b.toNat : Int) := by
  rw [bt_at_ _ _ (by simp)]
  simp
theorem extract_mk (l : List UInt8) (i j : Nat) : (mkB l).extract i j = mkB ((l.drop i).take (j - i)) := by
  apply toList_inj
  rw [toList_mk, toList_bl, bl, ByteArray.data_extract, Array.toList_extract]
  simp [mkB, List.extract]
theorem size_lt_mid (pre : List UInt8) (b : UInt8) (r : List UInt8) : (pre.length : Int) < ((mkB (pre ++ b :: r)).size : Int) := by rw [size_mk]; exact len_mid ..
theorem u8_lt (b : UInt8) : (b.toNat : Int) < 256 := by have := b.toNat_lt; omega
theorem toUInt8_toNat (b : UInt8) : ((b.toNat : Int)).toNat.toUInt8 = b := by simp
/-- 'for all bytes', as a loop over a string's places. -/
theorem all_loop (F : Nat → ByteArray → Int → Option Bool) (G : Nat → Int → Option Bool) (p : UInt8 → Bool) (hG : ∀ b : UInt8, Ev (fun k => G k b.toNat) (p b))
    (hF : ∀ k s i, F (k + 1) s i = if i < (s.size : Int) then (if 0 ≤ i then (G k (bt s i)).bind fun t => (if t = true then F k s (wrap64 (i + 1)) else some false) else none) else some true) :
    ∀ (r pre : List UInt8), (pre ++ r).length ≤ 9223372036854775806 → Ev (fun k => F k (mkB (pre ++ r)) pre.length) (r.all p)
  | [], pre, _ => Ev.step (f := fun _ => some true) (fun k => by rw [hF, size_mk]; simp) (Ev.now _)
  | b :: r, pre, hl => by
    have ih := all_loop F G p hG hF r (pre ++ [b]) (by rw [← app_mid]; exact hl)
    rw [← app_mid, len_snoc] at ih
    simp at hl
    refine Ev.step (f := fun k => (G k b.toNat).bind fun t => (if t = true then F k (mkB (pre ++ b :: r)) (pre.length + 1) else some false)) (fun k => ?_) ?_
    · rw [hF, if_pos (size_lt_mid ..), if_pos (by omega), bt_mid, wrap_id (by omega) (by omega)]
    refine (hG b).bind ?_
    cases hp : p b
    · simpa [List.all_cons, hp] using Ev.now false
    · simpa [List.all_cons, hp] using ih
theorem all_ev (F : Nat → ByteArray → Int → Option Bool) (G : Nat → Int → Option Bool) (p : UInt8 → Bool) (hG : ∀ b : UInt8, Ev (fun k => G k b.toNat) (p b))
    (hF : ∀ k s i, F (k + 1) s i = if i < (s.size : Int) then (if 0 ≤ i then (G k (bt s i)).bind fun t => (if t = true then F k s (wrap64 (i + 1)) else some false) else none) else some true)
    (s : ByteArray) (hs : s.size ≤ 9223372036854775806) : Ev (fun k => F k s 0) ((bl s).all p) := by
  have := all_loop F G p hG hF (bl s) [] (by simpa [size_bl] using hs)
  simpa [mk_bl] using this
theorem Ev.const {α : Type} {x : Option α} {r : α} (h : x = some r) : Ev (fun _ => x) r := ⟨0, fun _ _ => h⟩
/-! #### Mids -/
theorem take_mid (pre m suf : List UInt8) : ((pre ++ (m ++ suf)).drop pre.length).take (pre.length + m.length - pre.length) = m := by simp
theorem bt_mid2 (pre m : List UInt8) (b : UInt8) (suf : List UInt8) (i : Int) (hi : i = (pre.length : Int) + (m.length : Int)) : bt (mkB (pre ++ (m ++ b :: suf))) i = (b.toNat : Int) := by
  have := bt_mid (pre ++ m) b suf
  rw [List.append_assoc] at this
  rw [hi, ← this]; simp
/-! #### Trim -/
def wh (b : UInt8) : Bool := decide (b.toNat = 32) || decide (b.toNat = 9)
def trimB (l : List UInt8) : List UInt8 := ((l.dropWhile wh).reverse.dropWhile wh).reverse
theorem l1white_is (b : UInt8) : spec_l1white.f (b.toNat : Int) = some (wh b) := by
  unfold spec_l1white.f wh
  by_cases h : b.toNat = 32
  · rw [if_pos (by omega)]; simp [h]
  · rw [if_neg (by omega)]
    by_cases h' : b.toNat = 9
    · simp [h']
    · simp [h, h']; omega
theorem isSpace_is (b : UInt8) : impl_isSpace.f (b.toNat : Int) = some (wh b) := l1white_is b
theorem specTrim_end : ∀ (m pre suf : List UInt8), (pre ++ (m.reverse ++ suf)).length ≤ 9223372036854775806 →
    Ev (fun k => spec_Trim.l1 k (mkB (pre ++ (m.reverse ++ suf))) pre.length ((pre.length : Int) + m.length)) (mkB (m.dropWhile wh).reverse)
  | [], pre, suf, hl => by
    refine Ev.step (f := fun _ => some (mkB [])) (fun k => ?_) (by simpa using Ev.now (mkB []))
    simp only [spec_Trim.l1]
    simp at hl
    rw [if_neg (by simp), if_pos (by omega), if_pos (by simp), if_pos (by rw [size_mk]; simp <;> omega), extract_mk]
    simp
  | b :: m, pre, suf, hl => by
    have e : pre ++ ((b :: m).reverse ++ suf) = pre ++ (m.reverse ++ b :: suf) := by simp
    rw [e] at hl ⊢
    have hl2 := hl
    simp at hl2
    have hb : bt (mkB (pre ++ (m.reverse ++ b :: suf))) ((pre.length : Int) + m.length) = (b.toNat : Int) := bt_mid2 pre m.reverse b suf _ (by simp)
    have hw : wrap64 ((pre.length : Int) + ((b :: m).length : Int) - 1) = (pre.length : Int) + m.length := by rw [wrap_id (by simp <;> omega) (by simp <;> omega)]; simp <;> omega
    by_cases hwb : wh b = true
    · have ih := specTrim_end m pre (b :: suf) hl
      rw [List.dropWhile_cons, if_pos hwb]
      refine Ev.step (fun k => ?_) ih
      simp only [spec_Trim.l1]
      rw [if_pos (by simp <;> omega), hw, if_pos (by omega), if_pos (by rw [size_mk]; simp <;> omega), hb, l1white_is, hwb]
      simp
    · rw [List.dropWhile_cons, if_neg hwb]
      have hwb' : wh b = false := by simpa using hwb
      refine Ev.step (f := fun _ => some (mkB (b :: m).reverse)) (fun k => ?_) (Ev.now _)
      simp only [spec_Trim.l1]
      rw [if_pos (by simp <;> omega), hw, if_pos (by omega), if_pos (by rw [size_mk]; simp <;> omega), hb, l1white_is, hwb']
      simp only [Option.bind_some, Bool.false_eq_true, if_false]
      rw [if_pos (by omega), if_pos (by simp <;> omega), if_pos (by rw [size_mk]; simp <;> omega), extract_mk]
      have hn : ((pre.length : Int) + ((b :: m).length : Int)).toNat = pre.length + (b :: m).reverse.length := by simp; omega
      rw [hn, Int.toNat_natCast, ← e, take_mid]
theorem specTrim_go : ∀ (r pre : List UInt8), (pre ++ r).length ≤ 9223372036854775806 →
    Ev (fun k => spec_Trim.l0 k (mkB (pre ++ r)) pre.length) (mkB (trimB r))
  | [], pre, hl => by
    have := specTrim_end [] pre [] (by simpa using hl)
    refine Ev.step (f := fun k => spec_Trim.j1 k (mkB (pre ++ [])) pre.length) (fun k => by simp only [spec_Trim.l0]; rw [if_neg (by rw [size_mk]; simp)]) ?_
    refine Ev.step (f := fun k => spec_Trim.l1 k (mkB (pre ++ [])) pre.length ((mkB (pre ++ [])).size : Int)) (fun k => by simp only [spec_Trim.j1]) ?_
    rw [size_mk]
    simpa [trimB] using this
  | b :: r, pre, hl => by
    have hl2 := hl
    simp at hl2
    by_cases hwb : wh b = true
    · have ih := specTrim_go r (pre ++ [b]) (by rw [← app_mid]; exact hl)
      rw [← app_mid, len_snoc] at ih
      have et : trimB (b :: r) = trimB r := by simp [trimB, List.dropWhile_cons, hwb]
      rw [et]
      refine Ev.step (fun k => ?_) ih
      simp only [spec_Trim.l0]
      rw [if_pos (size_lt_mid ..), if_pos (by omega), bt_mid, l1white_is, hwb, wrap_id (by omega) (by omega)]
      simp
    · have hwb' : wh b = false := by simpa using hwb
      have := specTrim_end (b :: r).reverse pre [] (by simpa using hl)
      refine Ev.step (f := fun k => spec_Trim.j1 k (mkB (pre ++ b :: r)) pre.length) (fun k => ?_) ?_
      · simp only [spec_Trim.l0]
        rw [if_pos (size_lt_mid ..), if_pos (by omega), bt_mid, l1white_is, hwb']
        simp
      refine Ev.step (f := fun k => spec_Trim.l1 k (mkB (pre ++ b :: r)) pre.length ((mkB (pre ++ b :: r)).size : Int)) (fun k => by simp only [spec_Trim.j1]) ?_
      have e2 : ((mkB (pre ++ b :: r)).size : Int) = (pre.length : Int) + ((b :: r).reverse.length : Int) := by rw [size_mk]; simp
      rw [e2]
      have et : trimB (b :: r) = ((b :: r).reverse.dropWhile wh).reverse := by simp only [trimB, List.dropWhile_cons, hwb', Bool.false_eq_true, if_false]
      rw [et]
      simpa using this
theorem specTrim_is (s : ByteArray) (hs : s.size ≤ 9223372036854775806) : Ev (fun k => spec_Trim.f k s) (mkB (trimB (bl s))) := by
  have := specTrim_go (bl s) [] (by simpa [size_bl] using hs)
  simpa [mk_bl, spec_Trim.f] using this
theorem implTrim_end : ∀ (m : List UInt8), m.length ≤ 9223372036854775806 → Ev (fun k => impl_Trim.l1 k (mkB m.reverse)) (mkB (m.dropWhile wh).reverse)
  | [], _ => Ev.step (f := fun _ => some (mkB [])) (fun k => by simp [impl_Trim.l1, toList_mk]) (by simpa using Ev.now (mkB []))
  | b :: m, hl => by
    simp at hl
    have hw : wrap64 (((mkB (b :: m).reverse).size : Int) - 1) = (m.length : Int) := by rw [size_mk, wrap_id (by simp <;> omega) (by simp <;> omega)]; simp
    have hb : bt (mkB (b :: m).reverse) (m.length : Int) = (b.toNat : Int) := by
      have := bt_mid m.reverse b []
      simpa using this
    have hcell : ∀ k, impl_Trim.l1 (k + 1) (mkB (b :: m).reverse) = if wh b = true then impl_Trim.l1 k (mkB m.reverse) else some (mkB (b :: m).reverse) := by
      intro k
      simp only [impl_Trim.l1]
      rw [if_neg (by rw [toList_mk]; simp), hw, if_pos (by omega), if_pos (by rw [size_mk]; simp <;> omega), hb, isSpace_is]
      simp only [Option.bind_some]
      split
      · rw [if_pos (by rw [size_mk]; simp <;> omega), extract_mk]
        congr 2
        simp
      · rfl
    by_cases hwb : wh b = true
    · rw [List.dropWhile_cons, if_pos hwb]
      exact Ev.step (fun k => by rw [hcell, if_pos hwb]) (implTrim_end m (by omega))
    · rw [List.dropWhile_cons, if_neg hwb]
      exact Ev.step (f := fun _ => some (mkB (b :: m).reverse)) (fun k => by rw [hcell, if_neg hwb]) (Ev.now _)
theorem implTrim_go : ∀ (r : List UInt8), r.length ≤ 9223372036854775806 → Ev (fun k => impl_Trim.l0 k (mkB r)) (mkB (trimB r))
  | [], _ => by
    have := implTrim_end [] (by simp)
    refine Ev.step (f := fun k => impl_Trim.j1 k (mkB [])) (fun k => by simp [impl_Trim.l0, toList_mk]) ?_
    exact Ev.step (f := fun k => impl_Trim.l1 k (mkB [])) (fun k => by simp only [impl_Trim.j1]) (by simpa [trimB] using this)
  | b :: r, hl => by
    simp at hl
    have hb : bt (mkB (b :: r)) 0 = (b.toNat : Int) := by simpa using bt_mid [] b r
    by_cases hwb : wh b = true
    · have ih := implTrim_go r (by omega)
      have et : trimB (b :: r) = trimB r := by simp [trimB, List.dropWhile_cons, hwb]
      rw [et]
      refine Ev.step (fun k => ?_) ih
      simp only [impl_Trim.l0]
      rw [if_neg (by rw [toList_mk]; simp), if_pos (by rw [size_mk]; simp <;> omega), hb, isSpace_is, hwb]
      simp only [Option.bind_some, if_true]
      rw [if_pos (by rw [size_mk]; simp <;> omega), extract_mk]
      simp [size_mk]
    · have hwb' : wh b = false := by simpa using hwb
      have := implTrim_end (b :: r).reverse (by simpa using hl)
      refine Ev.step (f := fun k => impl_Trim.j1 k (mkB (b :: r))) (fun k => ?_) ?_
      · simp only [impl_Trim.l0]
        rw [if_neg (by rw [toList_mk]; simp), if_pos (by rw [size_mk]; simp <;> omega), hb, isSpace_is, hwb']
        simp
      refine Ev.step (f := fun k => impl_Trim.l1 k (mkB (b :: r))) (fun k => by simp only [impl_Trim.j1]) ?_
      have et : trimB (b :: r) = ((b :: r).reverse.dropWhile wh).reverse := by simp only [trimB, List.dropWhile_cons, hwb', Bool.false_eq_true, if_false]
      rw [et]
      simpa using this
theorem implTrim_is (s : ByteArray) (hs : s.size ≤ 9223372036854775806) : Ev (fun k => impl_Trim.f k s) (mkB (trimB (bl s))) := by
  have := implTrim_go (bl s) (by simpa [size_bl] using hs)
  simpa [mk_bl, impl_Trim.f] using this
/-! #### Chars -/
def plB (b : UInt8) : Bool := decide (b.toNat = 9) || (decide (32 ≤ b.toNat) && decide (b.toNat ≠ 127))
theorem specPlain_is (b : UInt8) : spec_l1plain.f (b.toNat : Int) = some (plB b) := by
  unfold spec_l1plain.f plB
  by_cases h : b.toNat = 9
  · rw [if_pos (by omega)]; simp [h]
  · rw [if_neg (by omega)]
    by_cases h' : 32 ≤ b.toNat
    · rw [if_pos (by omega)]; congr 1; rw [Bool.eq_iff_iff]; simp [h, h']; omega
    · rw [if_neg (by omega)]; simp [h, h']
theorem implPlain_is (b : UInt8) : impl_isPlain.f (b.toNat : Int) = some (plB b) := specPlain_is b
/-! #### TokB -/
def lowB (b : UInt8) : Bool := decide (97 ≤ b.toNat) && decide (b.toNat ≤ 122)
def uppB (b : UInt8) : Bool := decide (65 ≤ b.toNat) && decide (b.toNat ≤ 90)
def digB (b : UInt8) : Bool := decide (48 ≤ b.toNat) && decide (b.toNat ≤ 57)
theorem isLower_is (b : UInt8) : impl_isLower.f (b.toNat : Int) = some (lowB b) := by
  unfold impl_isLower.f lowB
  by_cases h : 97 ≤ b.toNat
  · rw [if_pos (by omega)]; congr 1; rw [Bool.eq_iff_iff]; simp [h]; omega
  · rw [if_neg (by omega)]; simp [h]
theorem isUpper_is (b : UInt8) : impl_isUpper.f (b.toNat : Int) = some (uppB b) := by
  unfold impl_isUpper.f uppB
  by_cases h : 65 ≤ b.toNat
  · rw [if_pos (by omega)]; congr 1; rw [Bool.eq_iff_iff]; simp [h]; omega
  · rw [if_neg (by omega)]; simp [h]
theorem isDigit_is (b : UInt8) : impl_isDigit.f (b.toNat : Int) = some (digB b) := by
  unfold impl_isDigit.f digB
  by_cases h : 48 ≤ b.toNat
  · rw [if_pos (by omega)]; congr 1; rw [Bool.eq_iff_iff]; simp [h]; omega
  · rw [if_neg (by omega)]; simp [h]
theorem l1digit_is (b : UInt8) : spec_l1digit.f (b.toNat : Int) = some (digB b) := isDigit_is b
theorem has_go (c : Int) : ∀ (r pre : List UInt8), (pre ++ r).length ≤ 9223372036854775806 → Ev (fun k => spec_l1has.l0 k (mkB (pre ++ r)) c pre.length) (r.any fun x => decide ((x.toNat : Int) = c))
  | [], pre, hl => Ev.step (f := fun _ => some false) (fun k => by simp only [spec_l1has.l0]; rw [if_neg (by rw [size_mk]; simp)]) (Ev.now _)
  | b :: r, pre, hl => by
    have ih := has_go c r (pre ++ [b]) (by rw [← app_mid]; exact hl)
    rw [← app_mid, len_snoc] at ih
    simp at hl
    by_cases h : (b.toNat : Int) = c
    · refine Ev.step (f := fun _ => some true) (fun k => ?_) (by simpa [h] using Ev.now true)
      simp only [spec_l1has.l0]
      rw [if_pos (size_lt_mid ..), if_pos (by omega), bt_mid, if_pos h]
    · refine Ev.step (fun k => ?_) (by simpa [h] using ih)
      simp only [spec_l1has.l0]
      rw [if_pos (size_lt_mid ..), if_pos (by omega), bt_mid, if_neg h, wrap_id (by omega) (by omega)]
theorem has_is (set : List UInt8) (b : UInt8) (h : set.length ≤ 9223372036854775806) : Ev (fun k => spec_l1has.f k (mkB set) (b.toNat : Int)) (set.contains b) := by
  have := has_go (b.toNat : Int) set [] (by simpa using h)
  have e : (set.any fun x => decide ((x.toNat : Int) = (b.toNat : Int))) = set.contains b := by
    rw [← List.any_beq]
    congr 1
    funext x
    rw [Bool.eq_iff_iff]
    simp only [decide_eq_true_eq, beq_iff_eq]
    constructor
    · intro h; exact (UInt8.toNat_inj.1 (by omega)).symm
    · intro h; rw [h]
  rw [e] at this
  simpa [spec_l1has.f] using this
/-! #### Token -/
def tokOdd : List UInt8 := [33, 35, 36, 37, 38, 39, 42, 43, 45, 46, 94, 95, 124, 126]
def tokB (b : UInt8) : Bool := lowB b || uppB b || digB b || decide (b.toNat = 96) || tokOdd.contains b
theorem indexByte_pos : ∀ (l : List UInt8) (c : UInt8), Lib.indexByte l c ≥ 0 ↔ l.contains c = true
  | [], c => by simp [Lib.indexByte]
  | b :: l, c => by
    have ih := indexByte_pos l c
    have lo : -1 ≤ Lib.indexByte l c := Lib.indexByte_ge l c
    unfold Lib.indexByte
    by_cases h : b = c
    · subst h; simp
    · have hb : (b == c) = false := by simpa using h
      have hc : (c == b) = false := by simpa using fun x => h x.symm
      rw [hb]
      simp only [Bool.false_eq_true, if_false, List.contains_cons, hc, Bool.false_or]
      rw [← ih]
      by_cases h2 : Lib.indexByte l c = -1
      · simp [h2]
      · have : (Lib.indexByte l c == -1) = false := by simpa using h2
        rw [this]; simp; omega
theorem isTokenByte_is (b : UInt8) : impl_isTokenByte.f (b.toNat : Int) = some (tokB b) := by
  have hi : (decide (Lib.indexByte tokOdd b ≥ 0)) = tokOdd.contains b := by
    rw [Bool.eq_iff_iff, decide_eq_true_iff]; exact indexByte_pos _ _
  have hx : strings_IndexByte.f (⟨#[33, 35, 36, 37, 38, 39, 42, 43, 45, 46, 94, 95, 124, 126]⟩ : ByteArray) (b.toNat : Int) = some (Lib.indexByte tokOdd b) := by
    unfold strings_IndexByte.f; rw [toUInt8_toNat]; rfl
  unfold impl_isTokenByte.f
  simp only [isLower_is, isUpper_is, isDigit_is, hx, Option.bind_some, hi]
  unfold tokB
  cases lowB b <;> cases uppB b <;> cases digB b <;> simp
  all_goals (by_cases h : b.toNat = 96 <;> simp [h])
  all_goals (try omega)
theorem tchar_is (b : UInt8) : Ev (fun k => spec_l1tchar.f k (b.toNat : Int)) (tokB b) := by
  have hb := u8_lt b
  have hh : Ev (fun k => spec_l1has.f k (⟨#[33, 35, 36, 37, 38, 39, 42, 43, 45, 46, 94, 95, 124, 126]⟩ : ByteArray) (b.toNat : Int)) (tokOdd.contains b) := has_is tokOdd b (by decide)
  have rest : Ev (fun k => if digB b = true then some true else if (b.toNat : Int) = 96 then some true else (spec_l1has.f k (⟨#[33, 35, 36, 37, 38, 39, 42, 43, 45, 46, 94, 95, 124, 126]⟩ : ByteArray) (b.toNat : Int)).bind fun t => some t) (digB b || decide (b.toNat = 96) || tokOdd.contains b) := by
    cases hd : digB b
    · by_cases h9 : b.toNat = 96
      · simpa [h9] using Ev.now true
      · have : ¬ (b.toNat : Int) = 96 := by omega
        simpa [h9, this] using hh.bind (f := fun _ (t : Bool) => some t) (Ev.now _)
    · simpa using Ev.now true
  unfold spec_l1tchar.f spec_l1lower.f
  simp only [l1digit_is]
  unfold tokB
  by_cases hU : 65 ≤ b.toNat ∧ b.toNat ≤ 90
  · have e1 : uppB b = true := by simp [uppB, hU]
    simp only [if_pos (show (b.toNat : Int) ≥ 65 by omega), if_pos (show (b.toNat : Int) ≤ 90 by omega), Option.bind_some, if_pos (show ((b.toNat : Int) + 32) % 256 ≥ 97 by omega), if_pos (show ((b.toNat : Int) + 32) % 256 ≤ 122 by omega)]
    simpa [e1] using Ev.now true
  · have e1 : uppB b = false := by simp [uppB]; omega
    have hlow : (if (b.toNat : Int) ≥ 65 then (if (b.toNat : Int) ≤ 90 then some (((b.toNat : Int) + 32) % 256) else some (b.toNat : Int)) else some (b.toNat : Int)) = some (b.toNat : Int) := by
      split
      · rw [if_neg (by omega)]
      · rfl
    rw [hlow]
    simp only [Option.bind_some]
    by_cases hL : 97 ≤ b.toNat
    · by_cases hL2 : b.toNat ≤ 122
      · have e2 : lowB b = true := by simp [lowB, hL, hL2]
        simp only [if_pos (show (b.toNat : Int) ≥ 97 by omega), if_pos (show (b.toNat : Int) ≤ 122 by omega)]
        simpa [e2] using Ev.now true
      · have e2 : lowB b = false := by simp [lowB, hL2]
        simp only [if_pos (show (b.toNat : Int) ≥ 97 by omega), if_neg (show ¬ (b.toNat : Int) ≤ 122 by omega)]
        simpa [e1, e2] using rest
    · have e2 : lowB b = false := by simp [lowB, hL]
      simp only [if_neg (show ¬ (b.toNat : Int) ≥ 97 by omega)]
      simpa [e1, e2] using rest
def tokenL (l : List UInt8) : Bool := decide (1 ≤ l.length) && decide (l.length ≤ 4000) && l.all tokB
theorem specToken_is (s : ByteArray) : Ev (fun k => spec_Token.f k s) (tokenL (bl s)) := by
  unfold spec_Token.f tokenL
  rw [size_bl]
  by_cases h0 : (s.size : Int) = 0
  · simp only [if_pos h0]
    refine Ev.step (f := fun _ => some false) (fun k => by simp [spec_Token.j0]) ?_
    simpa [show ¬ 1 ≤ s.size by omega] using Ev.now false
  · simp only [if_neg h0]
    by_cases h4 : (s.size : Int) > 4000
    · refine Ev.step (f := fun _ => some false) (fun k => by simp [spec_Token.j0, h4]) ?_
      simpa [show ¬ s.size ≤ 4000 by omega] using Ev.now false
    · refine Ev.step (f := fun k => spec_Token.l0 k s 0) (fun k => by simp [spec_Token.j0, h4]) ?_
      have := all_ev spec_Token.l0 spec_l1tchar.f tokB tchar_is (fun k s i => by simp only [spec_Token.l0]) s (by omega)
      simpa [show 1 ≤ s.size by omega, show s.size ≤ 4000 by omega] using this
/-! #### Within -/
theorem within_is (n a b : Int) : impl_within.f n a b = some (decide (a ≤ n) && decide (n ≤ b)) := by
  unfold impl_within.f
  by_cases h : a ≤ n <;> simp [h]
/-! #### FieldOk -/
theorem implToken_is (s : ByteArray) : Ev (fun k => impl_Token.f k s) (tokenL (bl s)) := by
  unfold impl_Token.f tokenL
  rw [size_bl]
  simp only [within_is, Option.bind_some]
  have e : (decide ((1 : Int) ≤ (s.size : Int)) && decide ((s.size : Int) ≤ 4000)) = (decide (1 ≤ s.size) && decide (s.size ≤ 4000)) := by rw [Bool.eq_iff_iff]; simp; omega
  rw [e]
  cases h : (decide (1 ≤ s.size) && decide (s.size ≤ 4000))
  · simpa using Ev.now false
  · have hs : s.size ≤ 9223372036854775806 := by simp at h; omega
    have := all_ev impl_all__impl_isTokenByte.l0 (fun _ c => impl_isTokenByte.f c) tokB (fun b => Ev.const (isTokenByte_is b)) (fun k s i => by simp only [impl_all__impl_isTokenByte.l0]) s hs
    simpa [impl_all__impl_isTokenByte.f] using this.bind (f := fun _ (t : Bool) => some t) (Ev.now _)
def fieldL (n v : List UInt8) : Bool := tokenL n && decide (n.length ≤ 40) && decide (v.length ≤ 190) && v.all plB && decide (trimB v = v)
theorem specL5plain_is (s : ByteArray) (hs : s.size ≤ 9223372036854775806) : Ev (fun k => spec_l5plain.f k s) ((bl s).all plB) := by
  have := all_ev spec_l5plain.l0 (fun _ c => spec_l1plain.f c) plB (fun b => Ev.const (specPlain_is b)) (fun k s i => by simp only [spec_l5plain.l0]) s hs
  simpa [spec_l5plain.f] using this
theorem implAllPlain_is (s : ByteArray) (hs : s.size ≤ 9223372036854775806) : Ev (fun k => impl_all__impl_isPlain.f k s) ((bl s).all plB) := by
  have := all_ev impl_all__impl_isPlain.l0 (fun _ c => impl_isPlain.f c) plB (fun b => Ev.const (implPlain_is b)) (fun k s i => by simp only [impl_all__impl_isPlain.l0]) s hs
  simpa [impl_all__impl_isPlain.f] using this
theorem trim_eq (v : ByteArray) : ((mkB (trimB (bl v))).toList == v.toList) = decide (trimB (bl v) = bl v) := by
  rw [toList_mk, toList_bl, Bool.eq_iff_iff]; simp
theorem specFieldOk_is (n v : ByteArray) : Ev (fun k => spec_FieldOk.f k n v) (fieldL (bl n) (bl v)) := by
  unfold spec_FieldOk.f fieldL
  rw [size_bl, size_bl]
  by_cases h1 : (n.size : Int) ≤ 40
  · simp only [if_pos h1]
    refine (specToken_is n).bind ?_
    cases ht : tokenL (bl n)
    · simpa using Ev.now false
    · by_cases h2 : (v.size : Int) ≤ 190
      · simp only [if_pos h2, if_true]
        refine (specL5plain_is v (by omega)).bind ?_
        cases hp : (bl v).all plB
        · simpa using Ev.now false
        · simp only [if_true]
          have := (specTrim_is v (by omega)).bind (f := fun _ (t : ByteArray) => some (t.toList == v.toList)) (Ev.now _)
          rw [trim_eq] at this
          simpa [show n.size ≤ 40 by omega, show v.size ≤ 190 by omega] using this
      · simp only [if_neg h2, if_true]
        simpa [show ¬ v.size ≤ 190 by omega] using Ev.now false
  · simp only [if_neg h1]
    simpa [show ¬ n.size ≤ 40 by omega] using Ev.now false
theorem implFieldOk_is (n v : ByteArray) : Ev (fun k => impl_FieldOk.f k n v) (fieldL (bl n) (bl v)) := by
  unfold impl_FieldOk.f fieldL
  rw [size_bl, size_bl]
  refine (implToken_is n).bind ?_
  cases ht : tokenL (bl n)
  · simpa using Ev.now false
  · by_cases h1 : (n.size : Int) ≤ 40
    · by_cases h2 : (v.size : Int) ≤ 190
      · simp only [if_pos h1, if_pos h2, if_true]
        refine (implAllPlain_is v (by omega)).bind ?_
        cases hp : (bl v).all plB
        · simpa using Ev.now false
        · simp only [if_true]
          have := (implTrim_is v (by omega)).bind (f := fun _ (t : ByteArray) => some (t.toList == v.toList)) (Ev.now _)
          rw [trim_eq] at this
          simpa [show n.size ≤ 40 by omega, show v.size ≤ 190 by omega] using this
      · simp only [if_pos h1, if_neg h2, if_true]
        simpa [show ¬ v.size ≤ 190 by omega] using Ev.now false
    · simp only [if_neg h1, if_true]
      simpa [show ¬ n.size ≤ 40 by omega] using Ev.now false
/-! #### Index -/
theorem index_bound : ∀ (l sub : List UInt8), Lib.index l sub = -1 ∨ (0 ≤ Lib.index l sub ∧ Lib.index l sub + sub.length ≤ l.length)
  | [], sub => by cases sub <;> simp [Lib.index]
  | b :: l, sub => by
    unfold Lib.index
    by_cases hp : sub.isPrefixOf (b :: l) = true
    · have := (List.isPrefixOf_iff_prefix.1 hp).length_le
      rw [if_pos hp]; right; simp at this ⊢; omega
    · rw [if_neg hp]
      rcases index_bound l sub with h | h
      · left; simp [h]
      · right
        have : (Lib.index l sub == -1) = false := by simp; omega
        rw [this]; simp; omega
/-! #### Cut -/
def cutB (c : UInt8) : List UInt8 → List UInt8 × List UInt8 × Bool
  | [] => ([], [], false)
  | b :: l => if b = c then ([], l, true) else (b :: (cutB c l).1, (cutB c l).2)
theorem cut_is (c : UInt8) : ∀ l : List UInt8, Lib.cut l [c] = cutB c l
  | [] => by simp [Lib.cut, Lib.index, cutB]
  | b :: l => by
    have ih := cut_is c l
    have hb := index_bound l [c]
    unfold Lib.cut at ih ⊢
    by_cases h : b = c
    · subst h
      have hi : Lib.index (b :: l) [b] = 0 := by simp [Lib.index]
      rw [hi]; simp [cutB]
    · have hi : Lib.index (b :: l) [c] = if Lib.index l [c] = -1 then -1 else Lib.index l [c] + 1 := by
        have hc : (c == b) = false := by simpa using fun x => h x.symm
        simp only [Lib.index, List.isPrefixOf, hc, Bool.false_and, Bool.false_eq_true, if_false]
        by_cases hm : Lib.index l [c] = -1 <;> simp [hm]
      rw [hi, cutB, if_neg h]
      by_cases hm : Lib.index l [c] = -1
      · rw [hm] at ih
        rw [if_pos hm]
        rw [if_neg (by omega)] at ih ⊢
        rw [← ih]
      · rw [if_neg hm]
        rw [if_pos (by omega)] at ih
        rw [if_pos (by omega), ← ih]
        have e : (Lib.index l [c] + 1).toNat = (Lib.index l [c]).toNat + 1 := by omega
        rw [e]
        simp [Nat.add_right_comm]
theorem cutB_len (c : UInt8) : ∀ l : List UInt8, (cutB c l).1.length + (cutB c l).2.1.length ≤ l.length
  | [] => by simp [cutB]
  | b :: l => by
    have ih := cutB_len c l
    unfold cutB; split
    · simp
    · simp; omega
/-! #### ReadField -/
def readFieldL (l : List UInt8) : ByteArray × ByteArray × Bool :=
  if (cutB 58 l).2.2 = true ∧ fieldL (cutB 58 l).1 (trimB (cutB 58 l).2.1) = true then (mkB (cutB 58 l).1, mkB (trimB (cutB 58 l).2.1), true) else ((⟨#[]⟩ : ByteArray), (⟨#[]⟩ : ByteArray), false)
theorem stringsCut_is (s : ByteArray) (c : UInt8) (hs : s.size ≤ 1048576) : strings_Cut.f s (⟨#[c]⟩ : ByteArray) = some (mkB (cutB c (bl s)).1, mkB (cutB c (bl s)).2.1, (cutB c (bl s)).2.2) := by
  unfold strings_Cut.f
  rw [if_pos (by omega)]
  have : Lib.cut s.data.toList (⟨#[c]⟩ : ByteArray).data.toList = cutB c (bl s) := cut_is c (bl s)
  rw [this]; rfl
theorem implReadField_is (s : ByteArray) (hs : s.size ≤ 1048576) : Ev (fun k => impl_ReadField.f k s) (readFieldL (bl s)) := by
  have hlen := cutB_len 58 (bl s)
  rw [size_bl] at hlen
  unfold impl_ReadField.f
  rw [stringsCut_is s 58 hs]
  simp only [Option.bind_some]
  refine (implTrim_is _ (by rw [size_mk]; omega)).bind ?_
  unfold readFieldL
  rw [bl_mk]
  cases hc : (cutB 58 (bl s)).2.2
  · simpa using Ev.now ((⟨#[]⟩ : ByteArray), (⟨#[]⟩ : ByteArray), false)
  · simp only [if_true]
    refine (implFieldOk_is _ _).bind ?_
    rw [bl_mk, bl_mk]
    cases hf : fieldL (cutB 58 (bl s)).1 (trimB (cutB 58 (bl s)).2.1)
    · simpa using Ev.now _
    · simpa using Ev.now _
/-! #### Lists -/
/-- A loop that holds a list against itself. -/
theorem eqS_loop {β : Type} (F : Nat → List β → List β → Int → Option Bool) (hF : ∀ k l (i : Int), 0 ≤ i → i < (l.length : Int) → F (k + 1) l l i = F k l l (wrap64 (i + 1)))
    (hE : ∀ k l, F (k + 1) l l (l.length : Int) = some true) (L : List β) (hL : L.length ≤ 1048576) : ∀ (r pre : List β), pre ++ r = L → Ev (fun k => F k L L pre.length) true
  | [], pre, hp => by
    have e : pre = L := by simpa using hp
    exact Ev.step (f := fun _ => some true) (fun k => by rw [e]; exact hE k L) (Ev.now _)
  | x :: r, pre, hp => by
    have ih := eqS_loop F hF hE L hL r (pre ++ [x]) (by rw [← hp]; simp)
    rw [len_snoc] at ih
    have hlm := len_mid pre x r
    rw [hp] at hlm
    exact Ev.step (fun k => by rw [hF k L _ (by omega) hlm, wrap_id (by omega) (by omega)]) ih
theorem eqS_ev {β : Type} (F : Nat → List β → List β → Int → Option Bool) (hF : ∀ k l (i : Int), 0 ≤ i → i < (l.length : Int) → F (k + 1) l l i = F k l l (wrap64 (i + 1)))
    (hE : ∀ k l, F (k + 1) l l (l.length : Int) = some true) (l : List β) (hl : l.length ≤ 1048576) : Ev (fun k => F k l l 0) true := by
  simpa using eqS_loop F hF hE l hl l [] rfl
/-- A loop that asks each element. -/
theorem allS_loop {α : Type} (F : Nat → List α → Int → Option Bool) (G : Nat → α → Option Bool) (p : α → Bool) (z : α) (hG : ∀ x, Ev (fun k => G k x) (p x))
    (hF : ∀ k l (i : Int), 0 ≤ i → i < (l.length : Int) → F (k + 1) l i = (G k (l.getD i.toNat z)).bind fun t => if t = true then F k l (wrap64 (i + 1)) else some false)
    (hE : ∀ k l, F (k + 1) l (l.length : Int) = some true) : ∀ (r pre : List α), (pre ++ r).length ≤ 1048576 → Ev (fun k => F k (pre ++ r) pre.length) (r.all p)
  | [], pre, _ => Ev.step (f := fun _ => some true) (fun k => by simpa using hE k pre) (Ev.now _)
  | x :: r, pre, hl => by
    have ih := allS_loop F G p z hG hF hE r (pre ++ [x]) (by rw [← app_mid]; exact hl)
    rw [← app_mid, len_snoc] at ih
    simp at hl
    refine Ev.step (f := fun k => (G k x).bind fun t => if t = true then F k (pre ++ x :: r) (pre.length + 1) else some false) (fun k => ?_) ?_
    · rw [hF k _ _ (by omega) (len_mid ..), getD_mid, wrap_id (by omega) (by omega)]
    refine (hG x).bind ?_
    cases hp : p x
    · simpa [hp] using Ev.now false
    · simpa [hp] using ih
theorem allS_ev {α : Type} (F : Nat → List α → Int → Option Bool) (G : Nat → α → Option Bool) (p : α → Bool) (z : α) (hG : ∀ x, Ev (fun k => G k x) (p x))
    (hF : ∀ k l (i : Int), 0 ≤ i → i < (l.length : Int) → F (k + 1) l i = (G k (l.getD i.toNat z)).bind fun t => if t = true then F k l (wrap64 (i + 1)) else some false)
    (hE : ∀ k l, F (k + 1) l (l.length : Int) = some true) (l : List α) (hl : l.length ≤ 1048576) : Ev (fun k => F k l 0) (l.all p) := by
  simpa using allS_loop F G p z hG hF hE l [] (by simpa using hl)
/-! #### Fields -/
abbrev IFld := S30
def fldOk (x : IFld) : Bool := fieldL (bl x.f0) (bl x.f1)
def fldsOk (l : List IFld) : Bool := decide (l.length ≤ 20) && l.all fldOk
theorem specFieldsOk_is (l : List IFld) : Ev (fun k => spec_FieldsOk.f k l) (fldsOk l) := by
  unfold spec_FieldsOk.f fldsOk
  by_cases h : (l.length : Int) > 20
  · simp only [if_pos h]
    simpa [show ¬ l.length ≤ 20 by omega] using Ev.now false
  · simp only [if_neg h]
    have := allS_ev spec_FieldsOk.l0 (fun k x => spec_FieldOk.f k x.f0 x.f1) fldOk z30 (fun x => specFieldOk_is x.f0 x.f1)
      (fun k l i h0 h1 => by simp only [spec_FieldsOk.l0]; rw [if_pos h1, if_pos h0]; rfl) (fun k l => by simp only [spec_FieldsOk.l0]; rw [if_neg (by omega)]) l (by omega)
    simpa [show l.length ≤ 20 by omega] using this
theorem implFieldsOk_is (l : List IFld) : Ev (fun k => impl_FieldsOk.f k l) (fldsOk l) := by
  unfold impl_FieldsOk.f fldsOk
  by_cases h : (l.length : Int) > 20
  · simp only [if_pos h]
    simpa [show ¬ l.length ≤ 20 by omega] using Ev.now false
  · simp only [if_neg h]
    have := allS_ev (fun k l i => impl_FieldsOk.l0 k l (l.length : Int) i) (fun k x => impl_FieldOk.f k x.f0 x.f1) fldOk z30 (fun x => implFieldOk_is x.f0 x.f1)
      (fun k l i h0 h1 => by simp only [impl_FieldsOk.l0]; rw [if_pos h1, if_pos h0, if_pos h1]; rfl) (fun k l => by simp only [impl_FieldsOk.l0]; rw [if_neg (by omega)]) l (by omega)
    simpa [show l.length ≤ 20 by omega] using this
/-! #### FoldD -/
def lowS (s : ByteArray) : ByteArray := strOfNums ((bytesOf s).map lowI)
theorem lowS_size (s : ByteArray) : (lowS s).size = s.size := by
  unfold lowS; rw [size_strOf, List.length_map]
  show (bytesOf s).length = _
  rw [bytesOf, List.length_map, Array.length_toList]; rfl
/-! #### FoldS -/
theorem specFold_is (s : ByteArray) (h : s.size ≤ 1099511627776) : spec_Fold.f s = some (lowS s) := by unfold spec_Fold.f; rw [if_pos h]; rfl
/-! #### FoldI -/
theorem implFold_is (s : ByteArray) (h : s.size ≤ 1099511627776) : impl_Fold.f s = some (lowS s) := by unfold impl_Fold.f; rw [if_pos h]; rfl
/-! #### ValuesI -/
/-- A loop that collects what is fit. -/
theorem filtS_go {α β : Type} (L : Nat → List α → List β → Int → Option (List β)) (p : α → Bool) (g : α → β) (ok : α → Prop) (z : α)
    (hstep : ∀ k l acc (i : Int), 0 ≤ i → i < (l.length : Int) → acc.length < 8796093022208 → ok (l.getD i.toNat z) → L (k + 1) l acc i = if p (l.getD i.toNat z) = true then L k l (acc ++ [g (l.getD i.toNat z)]) (wrap64 (i + 1)) else L k l acc (wrap64 (i + 1)))
    (hend : ∀ k l acc, L (k + 1) l acc (l.length : Int) = some acc) :
    ∀ (r pre : List α) (acc : List β), (∀ x ∈ r, ok x) → acc.length + r.length ≤ 1048576 → (pre ++ r).length ≤ 1048576 → Ev (fun k => L k (pre ++ r) acc pre.length) (acc ++ (r.filter p).map g)
  | [], pre, acc, _, _, _ => Ev.step (f := fun _ => some acc) (fun k => by simpa using hend k pre acc) (by simpa using Ev.now acc)
  | x :: r, pre, acc, ho, ha, hl => by
    have hx := ho x (by simp)
    simp only [List.length_cons] at ha
    have hw : wrap64 ((pre.length : Int) + 1) = (pre.length : Int) + 1 := by simp at hl; exact wrap_id (by omega) (by omega)
    have hs := fun k => hstep k (pre ++ x :: r) acc pre.length (by omega) (len_mid ..) (by omega) (by rw [getD_mid]; exact hx)
    simp only [getD_mid, hw] at hs
    by_cases hp : p x = true
    · have ih := filtS_go L p g ok z hstep hend r (pre ++ [x]) (acc ++ [g x]) (fun y hy => ho y (List.mem_cons_of_mem _ hy)) (by simp; omega) (by rw [← app_mid]; exact hl)
      rw [← app_mid, len_snoc] at ih
      rw [List.filter_cons_of_pos hp, List.map_cons, show acc ++ g x :: (r.filter p).map g = acc ++ [g x] ++ (r.filter p).map g by simp]
      exact Ev.step (fun k => by rw [hs, if_pos hp]) ih
    · have ih := filtS_go L p g ok z hstep hend r (pre ++ [x]) acc (fun y hy => ho y (List.mem_cons_of_mem _ hy)) (by omega) (by rw [← app_mid]; exact hl)
      rw [← app_mid, len_snoc] at ih
      rw [List.filter_cons_of_neg hp]
      exact Ev.step (fun k => by rw [hs, if_neg hp]) ih
def sameB (a b : ByteArray) : Bool := (lowS a).toList == (lowS b).toList
theorem implSame_is (a b : ByteArray) (ha : a.size ≤ 1099511627776) (hb : b.size ≤ 1099511627776) : impl_SameFold.f a b = some (sameB a b) := by
  unfold impl_SameFold.f; rw [implFold_is a ha, implFold_is b hb]; rfl
def valsF (l : List IFld) (n : ByteArray) : List ByteArray := (l.filter fun x => sameB x.f0 n).map (·.f1)
def vals (l : List IFld) (n : ByteArray) : List ByteArray := if fldsOk l = true then valsF l n else []
def smallF (x : IFld) : Prop := x.f0.size ≤ 1048576 ∧ x.f1.size ≤ 1048576
theorem implValues_is (l : List IFld) (n : ByteArray) (hl : l.length ≤ 1048576) (ho : ∀ x ∈ l, smallF x) (hn : n.size ≤ 1048576) : Ev (fun k => impl_Values.f k l n) (vals l n) := by
  unfold impl_Values.f vals
  refine (implFieldsOk_is l).bind ?_
  by_cases h : fldsOk l = true
  · simp only [if_pos h]
    have := filtS_go (fun k l acc i => impl_Values.l0 k n acc l (l.length : Int) i) (fun x => sameB x.f0 n) (·.f1) smallF z30
      (fun k l acc i h0 h1 h2 h3 => by simp only [impl_Values.l0]; rw [if_pos h1, if_pos h0, if_pos h1]; simp only [rd_T30]; rw [implSame_is _ _ (by have := h3.1; omega) (by omega)]; simp only [Option.bind_some, if_pos h2])
      (fun k l acc => by simp only [impl_Values.l0]; rw [if_neg (by omega)]) l [] [] ho (by simpa using hl) (by simpa using hl)
    simpa [valsF] using this
  · simp only [if_neg h]; exact Ev.now _
theorem le_sum_mem : ∀ (l : List Nat) (x : Nat), x ∈ l → x ≤ l.sum
  | a :: l, x, h => by
    simp only [List.sum_cons]
    rcases List.mem_cons.1 h with rfl | h
    · omega
    · have := le_sum_mem l x h; omega
/-! #### Values -/
theorem specSame_is (a b : ByteArray) (ha : a.size ≤ 1099511627776) (hb : b.size ≤ 1099511627776) : spec_SameFold.f a b = some (sameB a b) := by
  unfold spec_SameFold.f; rw [specFold_is a ha, specFold_is b hb]; rfl
theorem specValues_is (l : List IFld) (n : ByteArray) (hl : l.length ≤ 1048576) (ho : ∀ x ∈ l, smallF x) (hn : n.size ≤ 1048576) : Ev (fun k => spec_Values.f k l n) (vals l n) := by
  unfold spec_Values.f vals
  refine (specFieldsOk_is l).bind ?_
  by_cases h : fldsOk l = true
  · simp only [if_pos h]
    have := filtS_go (fun k l acc i => spec_Values.l0 k l n acc i) (fun x => sameB x.f0 n) (·.f1) smallF z30
      (fun k l acc i h0 h1 h2 h3 => by simp only [spec_Values.l0]; rw [if_pos h1, if_pos h0]; simp only [rd_T30]; rw [specSame_is _ _ (by have := h3.1; omega) (by omega)]; simp only [Option.bind_some, if_pos h2])
      (fun k l acc => by simp only [spec_Values.l0]; rw [if_neg (by omega)]) l [] [] ho (by simpa using hl) (by simpa using hl)
    simpa [valsF] using this
  · simp only [if_neg h]; exact Ev.now _
/-! #### Joined -/
def totF (l : List IFld) : Nat := (l.map fun x => x.f0.size + x.f1.size).sum
theorem smallF_tot (l : List IFld) (h : totF l ≤ 1048576) : ∀ x ∈ l, smallF x := by
  intro x hx
  have : x.f0.size + x.f1.size ≤ totF l := le_sum_mem _ _ (List.mem_map_of_mem (f := fun x : IFld => x.f0.size + x.f1.size) hx)
  exact ⟨by omega, by omega⟩
def totS (l : List ByteArray) : Nat := (l.map (·.size)).sum
theorem totS_vals (l : List IFld) (n : ByteArray) : totS (vals l n) ≤ totF l := by
  have : ∀ l : List IFld, totS (valsF l n) ≤ totF l := by
    intro l
    induction l with
    | nil => simp [totS, totF, valsF]
    | cons x r ih =>
      by_cases hp : sameB x.f0 n = true
      · simp [totS, totF, valsF, List.filter_cons, hp] at ih ⊢; omega
      · simp [totS, totF, valsF, List.filter_cons, hp] at ih ⊢; omega
  unfold vals
  split
  · exact this l
  · simp [totS]
theorem len_vals (l : List IFld) (n : ByteArray) : (vals l n).length ≤ 20 := by
  unfold vals
  split
  · rename_i h
    simp [fldsOk] at h
    have : (valsF l n).length ≤ l.length := by simpa [valsF] using List.length_filter_le _ l
    omega
  · simp
def commaB : List UInt8 := [44, 32]
def joined (v : List ByteArray) : ByteArray := mkB (Lib.join (v.map bl) commaB)
theorem bl_append (a b : ByteArray) : bl (a ++ b) = bl a ++ bl b := by simp [bl]
theorem bl_length (a : ByteArray) : (bl a).length = a.size := by simp [bl]
theorem specJoined_go : ∀ (r pre : List ByteArray) (acc : ByteArray), pre ≠ [] → (pre ++ r).length ≤ 1048576 → acc.size + totS r + 2 * r.length ≤ 1099511627776 →
    Ev (fun k => spec_Joined.l0 k (pre ++ r) acc pre.length) (mkB (bl acc ++ Lib.joinTail commaB (r.map bl)))
  | [], pre, acc, _, _, _ => Ev.step (f := fun _ => some acc) (fun k => by simp [spec_Joined.l0]) (by simpa [Lib.joinTail, mk_bl] using Ev.now acc)
  | x :: r, pre, acc, hp, hl, ht => by
    have htc : totS (x :: r) = x.size + totS r := by simp [totS]
    rw [htc, List.length_cons] at ht
    have hs1 : (acc ++ (⟨#[44, 32]⟩ : ByteArray)).size = acc.size + 2 := by rw [ByteArray.size_append]; rfl
    have hs2 : (acc ++ (⟨#[44, 32]⟩ : ByteArray) ++ x).size = acc.size + 2 + x.size := by rw [ByteArray.size_append, hs1]
    have ih := specJoined_go r (pre ++ [x]) (acc ++ (⟨#[44, 32]⟩ : ByteArray) ++ x) (by simp) (by rw [← app_mid]; exact hl) (by rw [hs2]; omega)
    rw [← app_mid, len_snoc] at ih
    have e : bl acc ++ Lib.joinTail commaB ((x :: r).map bl) = bl (acc ++ (⟨#[44, 32]⟩ : ByteArray) ++ x) ++ Lib.joinTail commaB (r.map bl) := by
      simp [Lib.joinTail, bl_append, commaB]; rfl
    rw [e]
    refine Ev.step (fun k => ?_) ih
    have h0 : 0 < pre.length := List.length_pos_iff.2 hp
    simp only [spec_Joined.l0]
    simp at hl
    rw [if_pos (len_mid ..), if_pos (by omega), if_pos (by omega), if_pos (by omega)]
    simp only [rdOf, getD_mid]
    rw [if_pos (by rw [hs1]; omega), wrap_id (by omega) (by omega)]
theorem specJoin_is (v : List ByteArray) (hl : v.length ≤ 1048576) (ht : totS v + 2 * v.length ≤ 1099511627776) : Ev (fun k => spec_Joined.l0 k v (⟨#[]⟩ : ByteArray) 0) (joined v) := by
  cases v with
  | nil => exact Ev.step (f := fun _ => some (⟨#[]⟩ : ByteArray)) (fun k => by simp [spec_Joined.l0]) (by simpa [joined, Lib.join_nil, mkB] using Ev.now (⟨#[]⟩ : ByteArray))
  | cons x r =>
    have htc : totS (x :: r) = x.size + totS r := by simp [totS]
    rw [htc, List.length_cons] at ht
    have hs : ((⟨#[]⟩ : ByteArray) ++ x).size = x.size := by rw [ByteArray.size_append, show (⟨#[]⟩ : ByteArray).size = 0 from rfl, Nat.zero_add]
    have ih := specJoined_go r [x] ((⟨#[]⟩ : ByteArray) ++ x) (by simp) (by simpa using hl) (by rw [hs]; omega)
    have e : joined (x :: r) = mkB (bl ((⟨#[]⟩ : ByteArray) ++ x) ++ Lib.joinTail commaB (r.map bl)) := by
      unfold joined; rw [List.map_cons, Lib.join_cons, bl_append]; rfl
    rw [e]
    refine Ev.step (fun k => ?_) ih
    simp only [spec_Joined.l0]
    have hrd : rdOf ByteArray.empty (x :: r) 0 = x := rfl
    have hz : (⟨#[]⟩ : ByteArray).size = 0 := rfl
    have hw : wrap64 (0 + 1) = (([x] : List ByteArray).length : Int) := by simp [wrap64]
    rw [if_pos (by rw [List.length_cons]; omega), if_neg (by omega), if_pos (by omega), hrd, if_pos (by rw [hz]; omega), hw]
    rfl
theorem specJoined_is (l : List IFld) (n : ByteArray) (hl : l.length ≤ 1048576) (ht : totF l ≤ 1048576) (hn : n.size ≤ 1048576) : Ev (fun k => spec_Joined.f k l n) (joined (vals l n)) := by
  have h1 := totS_vals l n
  have h2 := len_vals l n
  unfold spec_Joined.f
  exact (specValues_is l n hl (smallF_tot l ht) hn).bind (specJoin_is _ (by omega) (by omega))
theorem joinTail_len (v : List ByteArray) : (Lib.joinTail commaB (v.map bl)).length = totS v + 2 * v.length := by
  induction v with
  | nil => rfl
  | cons x r ih =>
    have h1 : Lib.joinTail commaB ((x :: r).map bl) = commaB ++ bl x ++ Lib.joinTail commaB (r.map bl) := by simp [Lib.joinTail]
    have h2 : totS (x :: r) = x.size + totS r := by simp [totS]
    rw [h1, h2, List.length_append, List.length_append, ih, bl_length, List.length_cons]
    simp [commaB]; omega
theorem join_len (v : List ByteArray) : (Lib.join (v.map bl) commaB).length ≤ totS v + 2 * v.length := by
  cases v with
  | nil => simp [Lib.join_nil]
  | cons x r =>
    have h2 : totS (x :: r) = x.size + totS r := by simp [totS]
    rw [List.map_cons, Lib.join_cons, List.length_append, joinTail_len, bl_length, h2, List.length_cons]; omega
theorem implJoined_is (l : List IFld) (n : ByteArray) (hl : l.length ≤ 1048576) (ht : totF l ≤ 1048576) (hn : n.size ≤ 1048576) : Ev (fun k => impl_Joined.f k l n) (joined (vals l n)) := by
  have h1 := totS_vals l n
  have h2 := len_vals l n
  have h3 := join_len (vals l n)
  unfold impl_Joined.f
  refine (implValues_is l n hl (smallF_tot l ht) hn).bind ?_
  have hx : strings_Join.f (vals l n) (⟨#[44, 32]⟩ : ByteArray) = some (joined (vals l n)) := by
    unfold strings_Join.f
    exact if_pos ⟨by omega, by show (Lib.join ((vals l n).map bl) commaB).length ≤ _; omega⟩
  rw [hx]
  exact Ev.now _
/-! #### Elems -/
/-- A list's pieces: cut at each comma outside of quotes. -/
def elL : Nat → Bool → List UInt8 → List UInt8 → List (List UInt8)
  | 0, _, mid, _ => [mid]
  | _ + 1, _, mid, [] => [mid]
  | n + 1, q, mid, b :: r => if b = 34 then elL n (!q) (mid ++ [b]) r else if q = true then (if b = 92 then (match r with | [] => [mid ++ [b]] | c :: r' => elL n true (mid ++ [b, c]) r') else elL n true (mid ++ [b]) r) else if b = 44 then mid :: elL n false [] r else elL n false (mid ++ [b]) r
theorem elL_cons (n : Nat) (q : Bool) (mid : List UInt8) (b : UInt8) (r : List UInt8) : elL (n + 1) q mid (b :: r) = if b = 34 then elL n (!q) (mid ++ [b]) r else if q = true then (if b = 92 then (match r with | [] => [mid ++ [b]] | c :: r' => elL n true (mid ++ [b, c]) r') else elL n true (mid ++ [b]) r) else if b = 44 then mid :: elL n false [] r else elL n false (mid ++ [b]) r := by cases r <;> rfl
/-- What stays of them without blanks around. -/
def keepT (l : List (List UInt8)) : List (List UInt8) := (l.map trimB).filter (fun x => !x.isEmpty)
theorem keepT_cons (x : List UInt8) (l : List (List UInt8)) : keepT (x :: l) = keepT [x] ++ keepT l := by
  unfold keepT
  simp only [List.map_cons, List.map_nil]
  rw [List.filter_cons, List.filter_cons]
  split <;> simp
theorem keepT_one (x : List UInt8) : keepT [x] = if trimB x = [] then [] else [trimB x] := by
  unfold keepT
  by_cases h : trimB x = []
  · simp [h]
  · simp [h]
theorem u8_34 (b : UInt8) : (b.toNat : Int) = 34 ↔ b = 34 := by rw [← UInt8.toNat_inj]; show _ ↔ b.toNat = 34; omega
theorem u8_92 (b : UInt8) : (b.toNat : Int) = 92 ↔ b = 92 := by rw [← UInt8.toNat_inj]; show _ ↔ b.toNat = 92; omega
theorem u8_44 (b : UInt8) : (b.toNat : Int) = 44 ↔ b = 44 := by rw [← UInt8.toNat_inj]; show _ ↔ b.toNat = 44; omega
theorem implAdd_is (out : List ByteArray) (x : List UInt8) (hx : x.length ≤ 1000000) (ho : out.length ≤ 1000000) : Ev (fun k => impl_Elements.add k out (mkB x)) (out ++ (keepT [x]).map mkB) := by
  unfold impl_Elements.add
  refine (implTrim_is (mkB x) (by rw [size_mk]; omega)).bind ?_
  rw [bl_mk, toList_mk, keepT_one]
  by_cases h : trimB x = []
  · simp only [if_pos h]; simpa using Ev.now out
  · simp only [if_neg h, if_pos (show out.length < 8796093022208 by omega)]; exact Ev.now _
theorem implElems_last (mid done : List UInt8) (out : List ByteArray) (q : Bool) (hl : (done ++ mid).length ≤ 100000) (ho : out.length ≤ done.length) :
    Ev (fun k => impl_Elements.l0 k (mkB (done ++ mid)) out (done.length : Int) q ((done.length : Int) + (mid.length : Int))) (out ++ (keepT [mid]).map mkB) := by
  rw [List.length_append] at hl
  have hs : (mkB (done ++ mid)).size = done.length + mid.length := by rw [size_mk, List.length_append]
  have hx : (mkB (done ++ mid)).extract (done.length : Int).toNat (mkB (done ++ mid)).size = mkB mid := by
    have := take_mid done mid []
    rw [List.append_nil] at this
    rw [extract_mk, Int.toNat_natCast, hs, this]
  refine Ev.step (fun k => ?_) (implAdd_is out mid (by omega) (by omega))
  rw [impl_Elements.l0, if_neg (by rw [hs]; omega), if_pos (by omega), if_pos (by rw [hs]; omega), hx]
theorem implElems_cell (k : Nat) (s : ByteArray) (out : List ByteArray) (fr : Int) (q : Bool) (i : Int) (b : UInt8) (hlt : i < (s.size : Int)) (h0 : 0 ≤ i) (hb : bt s i = (b.toNat : Int)) (hs : s.size ≤ 1000000) :
    impl_Elements.l0 (k + 1) s out fr q i = if b = 34 then impl_Elements.l0 k s out fr (!q) (i + 1) else if q = true then (if b = 92 then impl_Elements.l0 k s out fr true (i + 1 + 1) else impl_Elements.l0 k s out fr true (i + 1)) else if b = 44 then (if 0 ≤ fr then (if fr ≤ i then (impl_Elements.add k out (s.extract fr.toNat i.toNat)).bind fun o => impl_Elements.l0 k s o (i + 1) false (i + 1) else none) else none) else impl_Elements.l0 k s out fr false (i + 1) := by
  have hw : wrap64 (i + 1) = i + 1 := wrap_id (by omega) (by omega)
  have hw2 : wrap64 (i + 1 + 1) = i + 1 + 1 := wrap_id (by omega) (by omega)
  rw [impl_Elements.l0, if_pos hlt, if_pos h0, hb, hw, hw2]
  by_cases h34 : b = 34
  · rw [if_pos h34, if_pos ((u8_34 b).2 h34)]
  rw [if_neg h34, if_neg (fun h => h34 ((u8_34 b).1 h))]
  cases q
  · rw [if_neg Bool.false_ne_true, if_neg Bool.false_ne_true]
    by_cases h44 : b = 44
    · rw [if_pos h44, if_pos ((u8_44 b).2 h44)]
    · rw [if_neg h44, if_neg (fun h => h44 ((u8_44 b).1 h))]
  · rw [if_pos rfl, if_pos rfl]
    by_cases h92 : b = 92
    · rw [if_pos h92, if_pos ((u8_92 b).2 h92)]
    · rw [if_neg h92, if_neg (fun h => h92 ((u8_92 b).1 h))]
theorem implElems_go : ∀ (n : Nat) (r mid done : List UInt8) (out : List ByteArray) (q : Bool), r.length ≤ n → (done ++ (mid ++ r)).length ≤ 100000 → out.length ≤ done.length →
    Ev (fun k => impl_Elements.l0 k (mkB (done ++ (mid ++ r))) out (done.length : Int) q ((done.length : Int) + (mid.length : Int))) (out ++ (keepT (elL n q mid r)).map mkB) := by
  intro n
  induction n with
  | zero =>
    intro r mid done out q hr hl ho
    obtain rfl : r = [] := List.length_eq_zero_iff.1 (by omega)
    have := implElems_last mid done out q (by simpa using hl) ho
    simpa [elL] using this
  | succ n ih =>
    intro r mid done out q hr hl ho
    cases r with
    | nil =>
      have := implElems_last mid done out q (by simpa using hl) ho
      simpa [elL] using this
    | cons b r =>
      have hl2 := hl
      simp at hl2 hr
      have hlt : (done.length : Int) + (mid.length : Int) < ((mkB (done ++ (mid ++ b :: r))).size : Int) := by rw [size_mk]; simp; omega
      have hb := bt_mid2 done mid b r _ rfl
      have hz : (mkB (done ++ (mid ++ b :: r))).size ≤ 1000000 := by rw [size_mk]; omega
      have h0i : (0 : Int) ≤ (done.length : Int) + (mid.length : Int) := by omega
      have ih1 := fun q' => ih r (mid ++ [b]) done out q' (by omega) (by simp; omega) ho
      have e1 : done ++ (mid ++ [b] ++ r) = done ++ (mid ++ b :: r) := by simp
      have e2 : (done.length : Int) + ((mid ++ [b]).length : Int) = (done.length : Int) + (mid.length : Int) + 1 := by simp; omega
      simp only [e1, e2] at ih1
      by_cases h34 : b = 34
      · have e : elL (n + 1) q mid (b :: r) = elL n (!q) (mid ++ [b]) r := by rw [elL_cons, if_pos h34]
        rw [e]
        refine Ev.step (fun k => ?_) (ih1 (!q))
        rw [implElems_cell k _ out _ _ _ b hlt h0i hb hz, if_pos h34]
      · cases q with
        | true =>
          by_cases h92 : b = 92
          · cases r with
            | nil =>
              have e : elL (n + 1) true mid [b] = [mid ++ [b]] := by simp [elL, h34, h92]
              rw [e]
              have hx : (mkB (done ++ (mid ++ [b]))).extract (done.length : Int).toNat (mkB (done ++ (mid ++ [b]))).size = mkB (mid ++ [b]) := by
                have := take_mid done (mid ++ [b]) []
                rw [List.append_nil] at this
                rw [extract_mk, Int.toNat_natCast, size_mk, show (done ++ (mid ++ [b])).length = done.length + (mid ++ [b]).length by simp, this]
              refine Ev.step (f := fun k => impl_Elements.l0 k (mkB (done ++ (mid ++ [b]))) out (done.length : Int) true ((done.length : Int) + (mid.length : Int) + 1 + 1)) (fun k => ?_) ?_
              · rw [implElems_cell k _ out _ _ _ b hlt h0i hb hz, if_neg h34, if_pos rfl, if_pos h92]
              · refine Ev.step (fun k => ?_) (implAdd_is out (mid ++ [b]) (by simp; omega) (by omega))
                rw [impl_Elements.l0, if_neg (by rw [size_mk]; simp; omega), if_pos (by omega), if_pos (by rw [size_mk]; simp; omega), hx]
            | cons c r' =>
              simp at hl2 hr
              have e : elL (n + 1) true mid (b :: c :: r') = elL n true (mid ++ [b, c]) r' := by rw [elL_cons, if_neg h34, if_pos rfl, if_pos h92]
              rw [e]
              have ih2 := ih r' (mid ++ [b, c]) done out true (by omega) (by simp; omega) ho
              have e3 : done ++ (mid ++ [b, c] ++ r') = done ++ (mid ++ b :: c :: r') := by simp
              have e4 : (done.length : Int) + ((mid ++ [b, c]).length : Int) = (done.length : Int) + (mid.length : Int) + 1 + 1 := by simp; omega
              rw [e3, e4] at ih2
              refine Ev.step (fun k => ?_) ih2
              rw [implElems_cell k _ out _ _ _ b hlt h0i hb hz, if_neg h34, if_pos rfl, if_pos h92]
          · have e : elL (n + 1) true mid (b :: r) = elL n true (mid ++ [b]) r := by rw [elL_cons, if_neg h34, if_pos rfl, if_neg h92]
            rw [e]
            refine Ev.step (fun k => ?_) (ih1 true)
            rw [implElems_cell k _ out _ _ _ b hlt h0i hb hz, if_neg h34, if_pos rfl, if_neg h92]
        | false =>
          by_cases h44 : b = 44
          · have e : elL (n + 1) false mid (b :: r) = mid :: elL n false [] r := by rw [elL_cons, if_neg h34, if_neg Bool.false_ne_true, if_pos h44]
            have er : out ++ (keepT (mid :: elL n false [] r)).map mkB = (out ++ (keepT [mid]).map mkB) ++ (keepT (elL n false [] r)).map mkB := by rw [keepT_cons, List.map_append, List.append_assoc]
            rw [e, er]
            have hx : (mkB (done ++ (mid ++ b :: r))).extract (done.length : Int).toNat ((done.length : Int) + (mid.length : Int)).toNat = mkB mid := by
              rw [extract_mk, Int.toNat_natCast, show ((done.length : Int) + (mid.length : Int)).toNat = done.length + mid.length by omega, take_mid]
            have hk1 : (keepT [mid]).length ≤ 1 := by rw [keepT_one]; split <;> simp
            have ih2 := ih r [] (done ++ mid ++ [b]) (out ++ (keepT [mid]).map mkB) false (by omega) (by simp; omega) (by simp; omega)
            have e3 : (done ++ mid ++ [b]) ++ ([] ++ r) = done ++ (mid ++ b :: r) := by simp
            have e4 : ((done ++ mid ++ [b]).length : Int) = (done.length : Int) + (mid.length : Int) + 1 := by simp; omega
            rw [e3, e4] at ih2
            simp only [List.length_nil, Int.natCast_zero, Int.add_zero] at ih2
            refine Ev.step (f := fun k => (impl_Elements.add k out (mkB mid)).bind fun o => impl_Elements.l0 k (mkB (done ++ (mid ++ b :: r))) o ((done.length : Int) + (mid.length : Int) + 1) false ((done.length : Int) + (mid.length : Int) + 1)) (fun k => ?_) ?_
            · rw [implElems_cell k _ out _ _ _ b hlt h0i hb hz, if_neg h34, if_neg Bool.false_ne_true, if_pos h44, if_pos (by omega), if_pos (by omega), hx]
            · exact (implAdd_is out mid (by omega) (by omega)).bind ih2
          · have e : elL (n + 1) false mid (b :: r) = elL n false (mid ++ [b]) r := by rw [elL_cons, if_neg h34, if_neg Bool.false_ne_true, if_neg h44]
            rw [e]
            refine Ev.step (fun k => ?_) (ih1 false)
            rw [implElems_cell k _ out _ _ _ b hlt h0i hb hz, if_neg h34, if_neg Bool.false_ne_true, if_neg h44]
def elementsL (l : List UInt8) : List ByteArray := if l.length > 4000 then [] else (keepT (elL l.length false [] l)).map mkB
theorem implElements_is (s : ByteArray) : Ev (fun k => impl_Elements.f k s) (elementsL (bl s)) := by
  unfold impl_Elements.f elementsL
  rw [size_bl]
  by_cases h : s.size > 4000
  · simp only [if_pos (show (s.size : Int) > 4000 by omega), if_pos h]; exact Ev.now _
  · simp only [if_neg (show ¬ (s.size : Int) > 4000 by omega), if_neg h]
    have := implElems_go s.size (bl s) [] [] [] false (by rw [size_bl]; omega) (by simp [size_bl]; omega) (by simp)
    simpa [mk_bl] using this
/-! #### ElemsS -/
theorem specAdd_ev {γ : Type} (G : Nat → List ByteArray → Option γ) (out : List ByteArray) (x : List UInt8) (R : γ) (hx : x.length ≤ 1000000) (ho : out.length ≤ 1000000) (hG : Ev (fun k => G k (out ++ (keepT [x]).map mkB)) R) :
    Ev (fun k => (spec_Trim.f k (mkB x)).bind fun t => if (t.size : Int) > 0 then (if out.length < 8796093022208 then G k (out ++ [t]) else none) else G k out) R := by
  refine (specTrim_is (mkB x) (by rw [size_mk]; omega)).bind ?_
  rw [bl_mk, size_mk]
  rw [keepT_one] at hG
  by_cases h : trimB x = []
  · rw [if_pos h] at hG
    simp only [h, List.length_nil]
    simpa using hG
  · have hl : 1 ≤ (trimB x).length := List.length_pos_iff.2 h
    rw [if_neg h] at hG
    simp only [if_pos (show ((trimB x).length : Int) > 0 by omega), if_pos (show out.length < 8796093022208 by omega)]
    exact hG
theorem specElems_cell (k : Nat) (s : ByteArray) (out : List ByteArray) (fr : Int) (q : Bool) (i : Int) (b : UInt8) (hlt : i < (s.size : Int)) (h0 : 0 ≤ i) (hb : bt s i = (b.toNat : Int)) :
    spec_Elements.l0 (k + 1) s out fr q i = spec_Elements.j1 k s out fr q i (!q && decide (b = 44)) := by
  rw [spec_Elements.l0, if_pos (Int.le_of_lt hlt), if_neg (Int.ne_of_lt hlt)]
  cases q
  · rw [if_neg Bool.false_ne_true, if_pos h0, if_pos hlt, hb]
    congr 1
    rw [Bool.eq_iff_iff, beq_iff_eq, u8_44]; simp
  · rw [if_pos rfl]; rfl
theorem specElems_cell2 (k : Nat) (s : ByteArray) (out : List ByteArray) (fr : Int) (q : Bool) (i : Int) (b : UInt8) (hlt : i < (s.size : Int)) (h0 : 0 ≤ i) (hb : bt s i = (b.toNat : Int)) (hs : s.size ≤ 1000000) :
    spec_Elements.j1 (k + 1) s out fr q i false = if b = 34 then spec_Elements.l0 k s out fr (!q) (i + 1) else if q = true then (if b = 92 then (if i + 1 < (s.size : Int) then spec_Elements.l0 k s out fr q (i + 1 + 1) else spec_Elements.l0 k s out fr q (i + 1)) else spec_Elements.l0 k s out fr q (i + 1)) else spec_Elements.l0 k s out fr q (i + 1) := by
  have hw : wrap64 (i + 1) = i + 1 := wrap_id (by omega) (by omega)
  have hw2 : wrap64 (i + 1 + 1) = i + 1 + 1 := wrap_id (by omega) (by omega)
  rw [spec_Elements.j1, if_neg Bool.false_ne_true, if_pos h0, if_pos hlt, hb, hw, hw2]
  by_cases h34 : b = 34
  · rw [if_pos h34, if_pos ((u8_34 b).2 h34)]
  rw [if_neg h34, if_neg (fun h => h34 ((u8_34 b).1 h))]
  cases q
  · rw [if_neg Bool.false_ne_true, if_neg Bool.false_ne_true]
  · rw [if_pos rfl, if_pos rfl]
    by_cases h92 : b = 92
    · rw [if_pos h92, if_pos ((u8_92 b).2 h92)]
    · rw [if_neg h92, if_neg (fun h => h92 ((u8_92 b).1 h))]
theorem specElems_cell3 (k : Nat) (s : ByteArray) (out : List ByteArray) (fr : Int) (q : Bool) (i : Int) (x : ByteArray) (h0 : 0 ≤ fr) (h1 : fr ≤ i) (h2 : i ≤ (s.size : Int)) (hx : s.extract fr.toNat i.toNat = x) (hs : s.size ≤ 1000000) :
    spec_Elements.j1 (k + 1) s out fr q i true = (spec_Trim.f k x).bind fun t => if (t.size : Int) > 0 then (if out.length < 8796093022208 then spec_Elements.l0 k s (out ++ [t]) (i + 1) q (i + 1) else none) else spec_Elements.l0 k s out (i + 1) q (i + 1) := by
  have hw : wrap64 (i + 1) = i + 1 := wrap_id (by omega) (by omega)
  rw [spec_Elements.j1, if_pos rfl, if_pos h0, if_pos h1, if_pos h2, hx, hw]
theorem specElems_last (mid done : List UInt8) (out : List ByteArray) (q : Bool) (hl : (done ++ mid).length ≤ 100000) (ho : out.length ≤ done.length) :
    Ev (fun k => spec_Elements.l0 k (mkB (done ++ mid)) out (done.length : Int) q ((done.length : Int) + (mid.length : Int))) (out ++ (keepT [mid]).map mkB) := by
  simp at hl
  have hs : ((mkB (done ++ mid)).size : Int) = (done.length : Int) + (mid.length : Int) := by rw [size_mk]; simp
  have hx : (mkB (done ++ mid)).extract (done.length : Int).toNat ((done.length : Int) + (mid.length : Int)).toNat = mkB mid := by
    have := take_mid done mid []
    rw [List.append_nil] at this
    rw [extract_mk, Int.toNat_natCast, show ((done.length : Int) + (mid.length : Int)).toNat = done.length + mid.length by omega, this]
  have hw : wrap64 ((done.length : Int) + (mid.length : Int) + 1) = (done.length : Int) + (mid.length : Int) + 1 := wrap_id (by omega) (by omega)
  have hend : ∀ o : List ByteArray, Ev (fun k => spec_Elements.l0 k (mkB (done ++ mid)) o ((done.length : Int) + (mid.length : Int) + 1) q ((done.length : Int) + (mid.length : Int) + 1)) o := fun o =>
    Ev.step (f := fun _ => some o) (fun k => by rw [spec_Elements.l0, hs, if_neg (by omega)]) (Ev.now _)
  refine Ev.step (f := fun k => spec_Elements.j1 k (mkB (done ++ mid)) out (done.length : Int) q ((done.length : Int) + (mid.length : Int)) true) (fun k => by rw [spec_Elements.l0, hs, if_pos (by omega), if_pos rfl]) ?_
  refine Ev.step (fun k => specElems_cell3 k _ out _ q _ _ (by omega) (by omega) (by rw [hs]; omega) hx (by rw [size_mk, List.length_append]; omega)) (specAdd_ev (fun k o => spec_Elements.l0 k (mkB (done ++ mid)) o ((done.length : Int) + (mid.length : Int) + 1) q ((done.length : Int) + (mid.length : Int) + 1)) out mid _ (by omega) (by omega) (hend _))
theorem specElems_go : ∀ (n : Nat) (r mid done : List UInt8) (out : List ByteArray) (q : Bool), r.length ≤ n → (done ++ (mid ++ r)).length ≤ 100000 → out.length ≤ done.length →
    Ev (fun k => spec_Elements.l0 k (mkB (done ++ (mid ++ r))) out (done.length : Int) q ((done.length : Int) + (mid.length : Int))) (out ++ (keepT (elL n q mid r)).map mkB) := by
  intro n
  induction n with
  | zero =>
    intro r mid done out q hr hl ho
    obtain rfl : r = [] := List.length_eq_zero_iff.1 (by omega)
    have := specElems_last mid done out q (by simpa using hl) ho
    simpa [elL] using this
  | succ n ih =>
    intro r mid done out q hr hl ho
    cases r with
    | nil =>
      have := specElems_last mid done out q (by simpa using hl) ho
      simpa [elL] using this
    | cons b r =>
      have hl2 := hl
      simp at hl2 hr
      have hs : ((mkB (done ++ (mid ++ b :: r))).size : Int) = (done.length : Int) + (mid.length : Int) + 1 + r.length := by rw [size_mk]; simp; omega
      have hb := bt_mid2 done mid b r _ rfl
      have hz : (mkB (done ++ (mid ++ b :: r))).size ≤ 1000000 := by rw [size_mk]; omega
      have h0i : (0 : Int) ≤ (done.length : Int) + (mid.length : Int) := by omega
      have hlt : (done.length : Int) + (mid.length : Int) < ((mkB (done ++ (mid ++ b :: r))).size : Int) := by rw [size_mk]; simp; omega
      have g1 : (done.length : Int) + (mid.length : Int) ≤ (done.length : Int) + (mid.length : Int) + 1 + r.length := by omega
      have g2 : ¬ (done.length : Int) + (mid.length : Int) = (done.length : Int) + (mid.length : Int) + 1 + r.length := by omega
      have g3 : (0 : Int) ≤ (done.length : Int) + (mid.length : Int) := by omega
      have g4 : (done.length : Int) + (mid.length : Int) < (done.length : Int) + (mid.length : Int) + 1 + r.length := by omega
      have ih1 := fun q' => ih r (mid ++ [b]) done out q' (by omega) (by simp; omega) ho
      have e1 : done ++ (mid ++ [b] ++ r) = done ++ (mid ++ b :: r) := by simp
      have e2 : (done.length : Int) + ((mid ++ [b]).length : Int) = (done.length : Int) + (mid.length : Int) + 1 := by simp; omega
      simp only [e1, e2] at ih1
      refine Ev.step (fun k => specElems_cell k _ out _ q _ b hlt h0i hb) ?_
      by_cases h34 : b = 34
      · have e : elL (n + 1) q mid (b :: r) = elL n (!q) (mid ++ [b]) r := by rw [elL_cons, if_pos h34]
        have h44 : (!q && decide (b = 44)) = false := by rw [h34]; cases q <;> rfl
        rw [e, h44]
        refine Ev.step (fun k => ?_) (ih1 (!q))
        rw [specElems_cell2 k _ out _ _ _ b hlt h0i hb hz, if_pos h34]
      · cases q with
        | true =>
          simp only [Bool.not_true, Bool.false_and]
          by_cases h92 : b = 92
          · cases r with
            | nil =>
              have e : elL (n + 1) true mid [b] = [mid ++ [b]] := by simp [elL, h34, h92]
              rw [e]
              have hlast := specElems_last (mid ++ [b]) done out true (by simpa using hl) ho
              rw [e2] at hlast
              refine Ev.step (fun k => ?_) hlast
              rw [specElems_cell2 k _ out _ _ _ b hlt h0i hb hz, if_neg h34, if_pos rfl, if_pos h92, if_neg (by rw [hs]; simp)]
            | cons c r' =>
              simp at hl2 hr
              have e : elL (n + 1) true mid (b :: c :: r') = elL n true (mid ++ [b, c]) r' := by rw [elL_cons, if_neg h34, if_pos rfl, if_pos h92]
              rw [e]
              have ih2 := ih r' (mid ++ [b, c]) done out true (by omega) (by simp; omega) ho
              have e3 : done ++ (mid ++ [b, c] ++ r') = done ++ (mid ++ b :: c :: r') := by simp
              have e4 : (done.length : Int) + ((mid ++ [b, c]).length : Int) = (done.length : Int) + (mid.length : Int) + 1 + 1 := by simp; omega
              rw [e3, e4] at ih2
              refine Ev.step (fun k => ?_) ih2
              rw [specElems_cell2 k _ out _ _ _ b hlt h0i hb hz, if_neg h34, if_pos rfl, if_pos h92, if_pos (by rw [hs]; simp; omega)]
          · have e : elL (n + 1) true mid (b :: r) = elL n true (mid ++ [b]) r := by rw [elL_cons, if_neg h34, if_pos rfl, if_neg h92]
            rw [e]
            refine Ev.step (fun k => ?_) (ih1 true)
            rw [specElems_cell2 k _ out _ _ _ b hlt h0i hb hz, if_neg h34, if_pos rfl, if_neg h92]
        | false =>
          simp only [Bool.not_false, Bool.true_and]
          by_cases h44 : b = 44
          · have e : elL (n + 1) false mid (b :: r) = mid :: elL n false [] r := by rw [elL_cons, if_neg h34, if_neg Bool.false_ne_true, if_pos h44]
            have er : out ++ (keepT (mid :: elL n false [] r)).map mkB = (out ++ (keepT [mid]).map mkB) ++ (keepT (elL n false [] r)).map mkB := by rw [keepT_cons, List.map_append, List.append_assoc]
            rw [e, er]
            have hx : (mkB (done ++ (mid ++ b :: r))).extract (done.length : Int).toNat ((done.length : Int) + (mid.length : Int)).toNat = mkB mid := by
              rw [extract_mk, Int.toNat_natCast, show ((done.length : Int) + (mid.length : Int)).toNat = done.length + mid.length by omega, take_mid]
            have hk1 : (keepT [mid]).length ≤ 1 := by rw [keepT_one]; split <;> simp
            have ih2 := ih r [] (done ++ mid ++ [b]) (out ++ (keepT [mid]).map mkB) false (by omega) (by simp; omega) (by simp; omega)
            have e3 : (done ++ mid ++ [b]) ++ ([] ++ r) = done ++ (mid ++ b :: r) := by simp
            have e4 : ((done ++ mid ++ [b]).length : Int) = (done.length : Int) + (mid.length : Int) + 1 := by simp; omega
            rw [e3, e4] at ih2
            simp only [List.length_nil, Int.natCast_zero, Int.add_zero] at ih2
            rw [decide_eq_true h44]
            refine Ev.step (fun k => specElems_cell3 k _ out _ false _ _ (by omega) (by omega) (by rw [hs]; omega) hx hz) (specAdd_ev (fun k o => spec_Elements.l0 k (mkB (done ++ (mid ++ b :: r))) o ((done.length : Int) + (mid.length : Int) + 1) false ((done.length : Int) + (mid.length : Int) + 1)) out mid _ (by omega) (by omega) ih2)
          · have e : elL (n + 1) false mid (b :: r) = elL n false (mid ++ [b]) r := by rw [elL_cons, if_neg h34, if_neg Bool.false_ne_true, if_neg h44]
            rw [e, decide_eq_false h44]
            refine Ev.step (fun k => ?_) (ih1 false)
            rw [specElems_cell2 k _ out _ _ _ b hlt h0i hb hz, if_neg h34, if_neg Bool.false_ne_true]
theorem specElements_is (s : ByteArray) : Ev (fun k => spec_Elements.f k s) (elementsL (bl s)) := by
  unfold spec_Elements.f elementsL
  rw [size_bl]
  by_cases h : s.size > 4000
  · simp only [if_pos (show (s.size : Int) > 4000 by omega), if_pos h]; exact Ev.now _
  · simp only [if_neg (show ¬ (s.size : Int) > 4000 by omega), if_neg h]
    have := specElems_go s.size (bl s) [] [] [] false (by rw [size_bl]; omega) (by simp [size_bl]; omega) (by simp)
    simpa [mk_bl] using this
/-! #### Words -/
def wordsL (l : List IFld) (n : ByteArray) : List ByteArray := elementsL (bl (joined (vals l n)))
theorem specWords_is (l : List IFld) (n : ByteArray) (hl : l.length ≤ 1048576) (ht : totF l ≤ 1048576) (hn : n.size ≤ 1048576) : Ev (fun k => spec_Words.f k l n) (wordsL l n) := by
  unfold spec_Words.f
  refine (specJoined_is l n hl ht hn).bind ?_
  refine (specElements_is _).bind ?_
  exact Ev.now _
theorem implWords_is (l : List IFld) (n : ByteArray) (hl : l.length ≤ 1048576) (ht : totF l ≤ 1048576) (hn : n.size ≤ 1048576) : Ev (fun k => impl_Words.f k l n) (wordsL l n) := by
  unfold impl_Words.f
  refine (implJoined_is l n hl ht hn).bind ?_
  refine (implElements_is _).bind ?_
  exact Ev.now _
theorem trimB_len (x : List UInt8) : (trimB x).length ≤ x.length := by
  have h1 : ∀ l : List UInt8, (l.dropWhile wh).length ≤ l.length := fun l => (List.dropWhile_sublist _).length_le
  unfold trimB
  rw [List.length_reverse]
  refine Nat.le_trans (h1 _) ?_
  rw [List.length_reverse]
  exact h1 x
theorem elL_len : ∀ (n : Nat) (q : Bool) (mid r : List UInt8), (elL n q mid r).length ≤ r.length + 1 ∧ ∀ x ∈ elL n q mid r, x.length ≤ mid.length + r.length
  | 0, q, mid, r => by simp [elL]
  | n + 1, q, mid, [] => by simp [elL]
  | n + 1, q, mid, b :: r => by
    have ih := fun q' => elL_len n q' (mid ++ [b]) r
    simp only [List.length_append, List.length_singleton] at ih
    have same : ∀ q', (elL n q' (mid ++ [b]) r).length ≤ (b :: r).length + 1 ∧ ∀ x ∈ elL n q' (mid ++ [b]) r, x.length ≤ mid.length + (b :: r).length := fun q' => by
      have := ih q'
      refine ⟨by simp; omega, fun x hx => ?_⟩
      have := this.2 x hx
      simp; omega
    unfold elL
    by_cases h34 : b = 34
    · rw [if_pos h34]; exact same _
    rw [if_neg h34]
    by_cases hq : q = true
    · rw [if_pos hq]
      by_cases h92 : b = 92
      · rw [if_pos h92]
        cases r with
        | nil => simp
        | cons c r' =>
          have := elL_len n true (mid ++ [b, c]) r'
          simp only [List.length_append, List.length_cons, List.length_nil] at this
          refine ⟨by simp; omega, fun x hx => ?_⟩
          have := this.2 x hx
          simp; omega
      · rw [if_neg h92]; exact same _
    · rw [if_neg hq]
      by_cases h44 : b = 44
      · rw [if_pos h44]
        have := elL_len n false [] r
        refine ⟨by simp; omega, fun x hx => ?_⟩
        rcases List.mem_cons.1 hx with rfl | hx
        · simp
        · have := this.2 x hx; simp at this ⊢; omega
      · rw [if_neg h44]; exact same _
theorem elementsL_bnd (l : List UInt8) : (elementsL l).length ≤ 4001 ∧ ∀ x ∈ elementsL l, x.size ≤ 4000 := by
  unfold elementsL
  by_cases h : l.length > 4000
  · rw [if_pos h]; simp
  · rw [if_neg h]
    have hb := elL_len l.length false [] l
    refine ⟨?_, fun x hx => ?_⟩
    · rw [List.length_map]
      refine Nat.le_trans (List.length_filter_le _ _) ?_
      rw [List.length_map]; omega
    · obtain ⟨y, hy, rfl⟩ := List.mem_map.1 hx
      obtain ⟨z, hz, rfl⟩ := List.mem_map.1 (List.mem_filter.1 hy).1
      rw [size_mk]
      have := hb.2 z hz
      have := trimB_len z
      simp at *; omega
/-! #### GetI -/
def get1 (l : List IFld) (n : ByteArray) : ByteArray × Bool := if ((vals l n).length : Int) = 0 then ((⟨#[]⟩ : ByteArray), false) else (rdOf ByteArray.empty (vals l n) 0, true)
theorem implGet_is (l : List IFld) (n : ByteArray) (hl : l.length ≤ 1048576) (ho : ∀ x ∈ l, smallF x) (hn : n.size ≤ 1048576) : Ev (fun k => impl_Get.f k l n) (get1 l n) := by
  unfold impl_Get.f get1
  refine (implValues_is l n hl ho hn).bind ?_
  by_cases h : ((vals l n).length : Int) = 0
  · simp only [if_pos h]; exact Ev.now _
  · simp only [if_neg h, if_pos (show 0 < ((vals l n).length : Int) by omega)]; exact Ev.now _
/-! #### HopI -/
def hop7 : List ByteArray := [(⟨#[99, 111, 110, 110, 101, 99, 116, 105, 111, 110]⟩ : ByteArray), (⟨#[107, 101, 101, 112, 45, 97, 108, 105, 118, 101]⟩ : ByteArray), (⟨#[112, 114, 111, 120, 121, 45, 99, 111, 110, 110, 101, 99, 116, 105, 111, 110]⟩ : ByteArray), (⟨#[116, 101]⟩ : ByteArray), (⟨#[116, 114, 97, 105, 108, 101, 114]⟩ : ByteArray), (⟨#[116, 114, 97, 110, 115, 102, 101, 114, 45, 101, 110, 99, 111, 100, 105, 110, 103]⟩ : ByteArray), (⟨#[117, 112, 103, 114, 97, 100, 101]⟩ : ByteArray)]
def hopC : ByteArray := (⟨#[99, 111, 110, 110, 101, 99, 116, 105, 111, 110]⟩ : ByteArray)
def hopSort (l : List ByteArray) : List ByteArray := slices_Compact_string_string.cpt (slices_Sort_string_string.srt l)
theorem srt_len (l : List ByteArray) : (slices_Sort_string_string.srt l).length = l.length := by simp [slices_Sort_string_string.srt]
theorem implHop_end (l w : List ByteArray) (hl : l.length < 4611686018427387904) : ((slices_Sort_string_string.f l).bind fun t => (slices_Compact_string_string.f t).bind fun t2 => some t2) = some (hopSort l) := by
  unfold slices_Sort_string_string.f slices_Compact_string_string.f
  rw [if_pos hl, Option.bind_some, srt_len, if_pos hl]; rfl
def hopAdd (l : List ByteArray) : List ByteArray := (l.filter fun w => tokenL (bl w)).map lowS
theorem implHop_go : ∀ (r pre out : List ByteArray), (∀ x ∈ r, x.size ≤ 1048576) → (pre ++ r).length ≤ 1048576 → out.length + r.length ≤ 1048576 →
    Ev (fun k => impl_HopNames.l0 k out (pre ++ r) ((pre ++ r).length : Int) (pre.length : Int)) (hopSort (out ++ hopAdd r))
  | [], pre, out, _, hl, ho => by
    refine Ev.step (f := fun _ => some (hopSort out)) (fun k => ?_) (by simpa [hopAdd] using Ev.now (hopSort out))
    simp only [impl_HopNames.l0]
    rw [if_neg (by simp), implHop_end out [] (by simp at ho; omega)]
  | x :: r, pre, out, hx, hl, ho => by
    have hl2 := hl
    simp at hl2 ho
    have hrd : rdOf ByteArray.empty (pre ++ x :: r) (pre.length : Int) = x := getD_mid pre x r _
    have ih := fun o => implHop_go r (pre ++ [x]) o (fun y hy => hx y (List.mem_cons_of_mem _ hy)) (by rw [← app_mid]; exact hl)
    simp only [← app_mid, len_snoc] at ih
    have hw : wrap64 ((pre.length : Int) + 1) = (pre.length : Int) + 1 := wrap_id (by omega) (by omega)
    refine Ev.step (f := fun k => (impl_Token.f k x).bind fun t => if t = true then ((impl_Fold.f x).bind fun q => if out.length < 8796093022208 then impl_HopNames.l0 k (out ++ [q]) (pre ++ x :: r) ((pre ++ x :: r).length : Int) ((pre.length : Int) + 1) else none) else impl_HopNames.l0 k out (pre ++ x :: r) ((pre ++ x :: r).length : Int) ((pre.length : Int) + 1)) (fun k => ?_) ?_
    · simp only [impl_HopNames.l0]
      rw [if_pos (len_mid ..), if_pos (by omega), if_pos (len_mid ..), hrd, hw]
    refine (implToken_is x).bind ?_
    cases ht : tokenL (bl x)
    · simp only [Bool.false_eq_true, if_false]
      have := ih out (by omega)
      simpa [hopAdd, ht] using this
    · simp only [if_true, implFold_is x (by have := hx x (by simp); omega), Option.bind_some, if_pos (show out.length < 8796093022208 by omega)]
      have := ih (out ++ [lowS x]) (by simp; omega)
      simpa [hopAdd, ht] using this
def hopsL (l : List IFld) : List ByteArray := if fldsOk l = true then hopSort (hop7 ++ hopAdd (wordsL l hopC)) else []
theorem implHopNames_is (l : List IFld) (hl : l.length ≤ 1048576) (ht : totF l ≤ 1048576) : Ev (fun k => impl_HopNames.f k l) (hopsL l) := by
  unfold impl_HopNames.f hopsL
  refine (implFieldsOk_is l).bind ?_
  cases hf : fldsOk l
  · simpa using Ev.now _
  · simp only [if_true]
    refine (implWords_is l hopC hl ht (by decide)).bind ?_
    have hb := elementsL_bnd (bl (joined (vals l hopC)))
    have := implHop_go (wordsL l hopC) [] hop7 (fun x hx => by have := hb.2 x hx; omega) (by have := hb.1; simp only [List.nil_append]; unfold wordsL; omega) (by have := hb.1; show 7 + _ ≤ _; unfold wordsL; omega)
    exact this
/-! #### Heads -/
theorem hop7_sort : hopSort hop7 = hop7 := by
  have h1 : slices_Sort_string_string.srt hop7 = hop7 := by
    unfold slices_Sort_string_string.srt
    rw [List.mergeSort_of_pairwise (by decide)]
    rfl
  unfold hopSort
  rw [h1]
  rfl
theorem heads_is : Ev (fun k => laws_heads.f k) true := by
  unfold laws_heads.f
  refine (implReadField_is (⟨#[65, 58, 32, 32, 98, 32]⟩ : ByteArray) (by decide)).bind ?_
  have e1 : readFieldL (bl (⟨#[65, 58, 32, 32, 98, 32]⟩ : ByteArray)) = (mkB [65], mkB [98], true) := by rfl
  rw [e1]
  have hg := implGet_is [(⟨(⟨#[65]⟩ : ByteArray), (⟨#[98]⟩ : ByteArray)⟩ : IFld)] (⟨#[97]⟩ : ByteArray) (by decide) (by intro x hx; simp at hx; subst hx; exact ⟨by decide, by decide⟩) (by decide)
  have e2 : get1 [(⟨(⟨#[65]⟩ : ByteArray), (⟨#[98]⟩ : ByteArray)⟩ : IFld)] (⟨#[97]⟩ : ByteArray) = (mkB [98], true) := by
    have hs : sameB (⟨#[65]⟩ : ByteArray) (⟨#[97]⟩ : ByteArray) = true := by
      unfold sameB
      rw [toList_bl, toList_bl]
      rfl
    have hv : vals [(⟨(⟨#[65]⟩ : ByteArray), (⟨#[98]⟩ : ByteArray)⟩ : IFld)] (⟨#[97]⟩ : ByteArray) = [(⟨#[98]⟩ : ByteArray)] := by
      unfold vals valsF
      rw [if_pos (by rfl)]
      simp [List.filter, hs]
    unfold get1
    rw [hv]
    rfl
  rw [e2] at hg
  refine hg.bind ?_
  simp only [if_true, toList_mk, beq_self_eq_true, Bool.and_self]
  refine (implHopNames_is [] (by decide) (by decide)).bind ?_
  have e3 : hopsL [] = hop7 := by
    have : hopAdd (wordsL [] hopC) = [] := by rfl
    unfold hopsL
    rw [if_pos (by rfl), this, List.append_nil, hop7_sort]
  rw [e3]
  exact Ev.now _
/-! #### Draw -/
-- what is drawn: it comes, and lies in its range
theorem i64_and255 (n : Int) : Go.bits .and .i64 n 255 = n % 256 := by
  have h255 : (BitVec.ofInt 64 255).toNat = 2 ^ 8 - 1 := by decide
  have key : (BitVec.ofInt 64 n &&& BitVec.ofInt 64 255).toNat = (n % ((2 ^ 64 : Nat) : Int)).toNat % 2 ^ 8 := by
    rw [BitVec.toNat_and, BitVec.toNat_ofInt, h255, Nat.and_two_pow_sub_one_eq_mod]
  show IntKind.i64.wrap ((BitVec.ofInt 64 n &&& BitVec.ofInt 64 255).toNat : Nat) = n % 256
  rw [key, IntKind.wrap_i64]
  omega
def StOk (b : List Int) (i : Int) : Prop := 0 ≤ i ∧ i ≤ (b.length : Int) ∧ (b.length : Int) ≤ 9223372036854775807
theorem l1Byte_ok (b : List Int) (i h : Int) (hs : StOk b i) : ∃ x i' h', spec_l1Byte.f b i h = some (x, i', h') ∧ 0 ≤ x ∧ x ≤ 255 ∧ StOk b i' := by
  obtain ⟨h0, h1, h2⟩ := hs
  unfold spec_l1Byte.f
  simp only [i64_and255]
  by_cases c : i < (b.length : Int)
  · rw [if_pos c, if_pos h0, wrap_id (a := i + 1) (by omega) (by omega)]
    exact ⟨_, _, _, rfl, by omega, by omega, by omega, by omega, h2⟩
  · rw [if_neg c]
    exact ⟨_, _, _, rfl, by omega, by omega, h0, h1, h2⟩
theorem l1Below_ok (b : List Int) (i h n : Int) (hs : StOk b i) : ∃ x i' h', spec_l1Below.f b i h n = some (x, i', h') ∧ 0 ≤ x ∧ (n ≤ 0 → x = 0) ∧ (0 < n → x < n) ∧ StOk b i' := by
  unfold spec_l1Below.f
  by_cases c : n ≤ 0
  · rw [if_pos c]; exact ⟨_, _, _, rfl, by omega, fun _ => rfl, by omega, hs⟩
  rw [if_neg c]
  have hn0 : ¬ n = 0 := by omega
  by_cases c2 : n ≤ 256
  · rw [if_pos c2]
    obtain ⟨x, i1, h1, e1, x0, x1, s1⟩ := l1Byte_ok b i h hs
    rw [e1, Option.bind_some, if_neg hn0, Int.tmod_eq_emod_of_nonneg x0]
    exact ⟨_, _, _, rfl, Int.emod_nonneg _ hn0, by omega, fun _ => Int.emod_lt_of_pos _ (by omega), s1⟩
  · rw [if_neg c2]
    obtain ⟨x, i1, h1, e1, x0, x1, s1⟩ := l1Byte_ok b i h hs
    obtain ⟨y, i2, h2, e2, y0, y1, s2⟩ := l1Byte_ok b i1 h1 s1
    obtain ⟨z, i3, h3, e3, z0, z1, s3⟩ := l1Byte_ok b i2 h2 s2
    obtain ⟨u, i4, h4, e4, u0, u1, s4⟩ := l1Byte_ok b i3 h3 s3
    simp only [e1, Option.bind_some, e2, e3, e4, if_neg hn0]
    rw [wrap_id (a := x * 16777216) (by omega) (by omega), wrap_id (a := y * 65536) (by omega) (by omega), wrap_id (a := z * 256) (by omega) (by omega), wrap_id (a := x * 16777216 + y * 65536) (by omega) (by omega), wrap_id (a := x * 16777216 + y * 65536 + z * 256) (by omega) (by omega), wrap_id (a := x * 16777216 + y * 65536 + z * 256 + u) (by omega) (by omega)]
    have q0 : 0 ≤ x * 16777216 + y * 65536 + z * 256 + u := by omega
    rw [Int.tmod_eq_emod_of_nonneg q0]
    exact ⟨_, _, _, rfl, Int.emod_nonneg _ hn0, by omega, fun _ => Int.emod_lt_of_pos _ (by omega), s4⟩
theorem l1New_go (l : List Int) (hl : (l.length : Int) ≤ 9223372036854775807) : ∀ (n : Nat) (i h : Int), 0 ≤ i → i ≤ 4000 → (4000 - i).toNat = n → ∃ h', Ev (fun k => spec_l1New.l0 k l h i) (l, 0, h') := by
  intro n
  induction n with
  | zero =>
    intro i h h0 h1 hn
    refine ⟨h, Ev.step (f := fun _ => some (l, (0 : Int), h)) (fun k => ?_) (Ev.now _)⟩
    rw [spec_l1New.l0]
    by_cases c : i < (l.length : Int)
    · rw [if_pos c, if_neg (by omega)]
    · rw [if_neg c]
  | succ n ih =>
    intro i h h0 h1 hn
    by_cases c : i < (l.length : Int)
    · obtain ⟨h', he⟩ := ih (i + 1) (Go.bits .and .i64 (wrap64 ((wrap64 ((wrap64 (h * 131)) + (wrap64 (rd l i)))) + 7)) 1073741823) (by omega) (by omega) (by omega)
      refine ⟨h', Ev.step (fun k => ?_) he⟩
      rw [spec_l1New.l0, if_pos c, if_pos (by omega), if_pos h0, wrap_id (a := i + 1) (by omega) (by omega)]
    · exact ⟨h, Ev.step (f := fun _ => some (l, (0 : Int), h)) (fun k => by rw [spec_l1New.l0, if_neg c]) (Ev.now _)⟩
theorem l1New_ok (l : List Int) (hl : l.length ≤ 9223372036854775807) : ∃ h', Ev (fun k => spec_l1New.f k l) (l, 0, h') := l1New_go l (by omega) _ 0 _ (by omega) (by omega) rfl
theorem StOk_new (l : List Int) (hl : l.length ≤ 9223372036854775807) : StOk l 0 := ⟨by omega, by omega, by omega⟩
/-! #### DrawOf -/
theorem l1of_go (s : ByteArray) (hs0 : 0 < s.size) (b : List Int) (n : Int) (hn : n ≤ 1000000) : ∀ (m : Nat) (acc : List Int) (i h j : Int), 0 ≤ j → (n - j).toNat = m → (acc.length : Int) = j → StOk b i →
    ∃ r i' h', Ev (fun k => spec_l1of.l0 k n s acc j b i h) (r, i', h') ∧ (r.size : Int) = max j n ∧ StOk b i' := by
  intro m
  induction m with
  | zero =>
    intro acc i h j hj hm ha hs
    exact ⟨strOfNums acc, i, h, Ev.step (f := fun _ => some (strOfNums acc, i, h)) (fun k => by rw [spec_l1of.l0, if_neg (by omega)]) (Ev.now _), by rw [size_strOf]; omega, hs⟩
  | succ m ih =>
    intro acc i h j hj hm ha hs
    obtain ⟨x, i1, h1, e1, x0, _, x1, s1⟩ := l1Below_ok b i h (s.size : Int) hs
    obtain ⟨r, i2, h2, he, hr, s2⟩ := ih (acc ++ [bt s x]) i1 h1 (j + 1) (by omega) (by omega) (by rw [List.length_append, List.length_singleton]; omega) s1
    refine ⟨r, i2, h2, Ev.step (fun k => ?_) he, by omega, s2⟩
    rw [spec_l1of.l0, if_pos (by omega), e1, Option.bind_some, if_pos x0, if_pos (x1 (by omega)), if_pos (by omega), wrap_id (a := j + 1) (by omega) (by omega)]
theorem l1of_ok (b : List Int) (i h n : Int) (s : ByteArray) (hs0 : 0 < s.size) (hn : n ≤ 1000000) (hs : StOk b i) : ∃ r i' h', Ev (fun k => spec_l1of.f k b i h n s) (r, i', h') ∧ (r.size : Int) = max 0 n ∧ StOk b i' :=
  l1of_go s hs0 b n hn _ [] i h 0 (by omega) rfl rfl hs
/-! #### DrawUrl -/
theorem l1Once_ok (b : List Int) (i h n : Int) (hs : StOk b i) : ∃ x i' h', spec_l1Once.f b i h n = some (x, i', h') ∧ StOk b i' := by
  obtain ⟨x, i1, h1, e1, _, _, _, s1⟩ := l1Below_ok b i h n hs
  unfold spec_l1Once.f
  rw [e1, Option.bind_some]
  exact ⟨_, _, _, rfl, s1⟩
/-! #### DrawBend -/
theorem l1bend_ok (b : List Int) (i h : Int) (s : ByteArray) (hz : s.size ≤ 100000) (hs : StOk b i) : ∃ r i' h', spec_l1bend.f b i h s = some (r, i', h') ∧ r.size ≤ s.size + 1 ∧ StOk b i' := by
  unfold spec_l1bend.f
  rw [if_pos (by omega)]
  obtain ⟨x, i1, h1, e1, x0, _, x1, s1⟩ := l1Below_ok b i h ((s.size : Int) + 1) hs
  have x2 := x1 (by omega)
  obtain ⟨y, i2, h2, e2, y0, _, y1, s2⟩ := l1Below_ok b i1 h1 4 s1
  have ha : (s.extract 0 x.toNat).size = x.toNat := by rw [ByteArray.size_extract]; omega
  have hb : (s.extract x.toNat s.size).size = s.size - x.toNat := by rw [ByteArray.size_extract]; omega
  simp only [e1, Option.bind_some, e2]
  by_cases c0 : y = 0
  · obtain ⟨z, i3, h3, e3, z0, z1, s3⟩ := l1Byte_ok b i2 h2 s2
    have h1z : (strOfNums [z % 256]).size = 1 := by rw [size_strOf]; rfl
    rw [if_pos c0, if_pos x0, if_pos (by omega)]
    simp only [e3, Option.bind_some]
    rw [if_pos (by rw [ha, h1z]; omega), if_pos (by rw [ByteArray.size_append, ha, h1z, hb]; omega)]
    exact ⟨_, _, _, rfl, by rw [ByteArray.size_append, ByteArray.size_append, ha, h1z, hb]; omega, s3⟩
  rw [if_neg c0]
  by_cases c1 : y = 1
  · rw [if_pos c1, if_pos x0, if_pos (by omega)]
    exact ⟨_, _, _, rfl, by rw [ha]; omega, s2⟩
  rw [if_neg c1]
  have hadd : ∃ r i' h', (if s.size + 1 ≤ 9223372036854775807 then (some (s ++ (⟨#[48]⟩ : ByteArray), i2, h2)) else none) = some (r, i', h') ∧ r.size ≤ s.size + 1 ∧ StOk b i' := by
    rw [if_pos (by omega)]
    exact ⟨_, _, _, rfl, by rw [ByteArray.size_append]; exact Nat.le_refl _, s2⟩
  by_cases c2 : y = 2
  · rw [if_pos c2]
    by_cases c3 : x < (s.size : Int)
    · have hw : wrap64 (x + 1) = x + 1 := wrap_id (by omega) (by omega)
      have hc : (s.extract (x + 1).toNat s.size).size = s.size - (x + 1).toNat := by rw [ByteArray.size_extract]; omega
      rw [if_pos c3, if_pos x0, if_pos (by omega), hw, if_pos (by omega), if_pos (by omega), if_pos (by rw [ha, hc]; omega)]
      exact ⟨_, _, _, rfl, by rw [ByteArray.size_append, ha, hc]; omega, s2⟩
    · rw [if_neg c3]; exact hadd
  rw [if_neg c2]
  by_cases c3 : x < (s.size : Int)
  · obtain ⟨z, i3, h3, e3, z0, _, z1, s3⟩ := l1Below_ok b i2 h2 8 s2
    have hlen : (bytesOf s).length = s.size := bytesOf_length s
    rw [if_pos c3, if_pos x0, if_pos (by rw [hlen]; exact c3)]
    simp only [e3, Option.bind_some]
    rw [if_pos z0]
    exact ⟨_, _, _, rfl, by rw [size_strOf, List.length_set, hlen]; omega, s3⟩
  · rw [if_neg c3]; exact hadd
/-! #### DrawField -/
theorem l5name_ok (b : List Int) (i h : Int) (hs : StOk b i) : ∃ r i' h', Ev (fun k => spec_l5name.f k b i h) (r, i', h') ∧ r.size ≤ 16 ∧ StOk b i' := by
  unfold spec_l5name.f
  obtain ⟨x, i1, h1, e1, x0, _, x1, s1⟩ := l1Below_ok b i h 9 hs
  have x2 := x1 (by omega)
  by_cases c0 : x = 0
  · refine ⟨_, i1, h1, by simp only [e1, Option.bind_some, if_pos c0]; exact Ev.now _, by decide, s1⟩
  by_cases c1 : x = 1
  · refine ⟨_, i1, h1, by simp only [e1, Option.bind_some, if_neg c0, if_pos c1]; exact Ev.now _, by decide, s1⟩
  by_cases c2 : x = 2
  · refine ⟨_, i1, h1, by simp only [e1, Option.bind_some, if_neg c0, if_neg c1, if_pos c2]; exact Ev.now _, by decide, s1⟩
  by_cases c3 : x = 3
  · refine ⟨_, i1, h1, by simp only [e1, Option.bind_some, if_neg c0, if_neg c1, if_neg c2, if_pos c3]; exact Ev.now _, by decide, s1⟩
  by_cases c4 : x = 4
  · refine ⟨_, i1, h1, by simp only [e1, Option.bind_some, if_neg c0, if_neg c1, if_neg c2, if_neg c3, if_pos c4]; exact Ev.now _, by decide, s1⟩
  by_cases c5 : x = 5
  · refine ⟨_, i1, h1, by simp only [e1, Option.bind_some, if_neg c0, if_neg c1, if_neg c2, if_neg c3, if_neg c4, if_pos c5]; exact Ev.now _, by decide, s1⟩
  by_cases c6 : x = 6
  · refine ⟨_, i1, h1, by simp only [e1, Option.bind_some, if_neg c0, if_neg c1, if_neg c2, if_neg c3, if_neg c4, if_neg c5, if_pos c6]; exact Ev.now _, by decide, s1⟩
  obtain ⟨y, i2, h2, e2, y0, _, y1, s2⟩ := l1Below_ok b i1 h1 4 s1
  have y2 := y1 (by omega)
  obtain ⟨r, i3, h3, e3, r3, s3⟩ := l1of_ok b i2 h2 (1 + y) (⟨#[97, 66, 45]⟩ : ByteArray) (by decide) (by omega) s2
  refine ⟨r, i3, h3, ?_, by omega, s3⟩
  simp only [e1, Option.bind_some, if_neg c0, if_neg c1, if_neg c2, if_neg c3, if_neg c4, if_neg c5, if_neg c6, e2, wrap_id (a := 1 + y) (by omega) (by omega)]
  exact e3.bind (Ev.now _)
theorem l5field_ok (b : List Int) (i h : Int) (hs : StOk b i) : ∃ n v i' h', Ev (fun k => spec_l5field.f k b i h) (n, v, i', h') ∧ n.size ≤ 16 ∧ v.size ≤ 64 ∧ StOk b i' := by
  unfold spec_l5field.f
  obtain ⟨n, i1, h1, e1, n1, s1⟩ := l5name_ok b i h hs
  obtain ⟨x, i2, h2, e2, x0, _, x1, s2⟩ := l1Below_ok b i1 h1 6 s1
  have x2 := x1 (by omega)
  obtain ⟨v, i3, h3, e3, v3, s3⟩ := l1of_ok b i2 h2 x (⟨#[97, 98, 49, 61]⟩ : ByteArray) (by decide) (by omega) s2
  obtain ⟨y, i4, h4, e4, y0, _, y1, s4⟩ := l1Below_ok b i3 h3 4 s3
  have y2 := y1 (by omega)
  by_cases c0 : y = 0
  · refine ⟨n, (⟨#[99, 108, 111, 115, 101, 44, 32, 120, 45, 116, 101, 97, 44, 32, 34, 113, 44, 34, 32, 44, 32, 97, 99, 99, 101, 112, 116]⟩ : ByteArray), i4, h4, e1.bind ?_, n1, by decide, s4⟩
    simp only [e2, Option.bind_some]
    refine e3.bind ?_
    simp only [e4, Option.bind_some, if_pos c0]; exact Ev.now _
  by_cases c1 : y = 1
  · obtain ⟨a, i5, h5, e5, a5, s5⟩ := l1of_ok b i4 h4 1 (⟨#[97, 98]⟩ : ByteArray) (by decide) (by omega) s4
    obtain ⟨z, i6, h6, e6, z0, _, z1, s6⟩ := l1Below_ok b i5 h5 8 s5
    have z2 := z1 (by omega)
    obtain ⟨m, i7, h7, e7, m7, s7⟩ := l1of_ok b i6 h6 z (⟨#[44, 32, 97, 9, 66]⟩ : ByteArray) (by decide) (by omega) s6
    obtain ⟨q, i8, h8, e8, q8, s8⟩ := l1of_ok b i7 h7 1 (⟨#[97, 98]⟩ : ByteArray) (by decide) (by omega) s7
    refine ⟨n, (a ++ m) ++ q, i8, h8, e1.bind ?_, n1, by rw [ByteArray.size_append, ByteArray.size_append]; omega, s8⟩
    simp only [e2, Option.bind_some]
    refine e3.bind ?_
    simp only [e4, Option.bind_some, if_neg c0, if_pos c1]
    refine e5.bind ?_
    simp only [e6, Option.bind_some]
    refine e7.bind ?_
    simp only [if_pos (show a.size + m.size ≤ 9223372036854775807 by omega)]
    refine e8.bind ?_
    simp only [if_pos (show (a ++ m).size + q.size ≤ 9223372036854775807 by rw [ByteArray.size_append]; omega)]
    exact Ev.now _
  refine ⟨n, v, i4, h4, e1.bind ?_, n1, by omega, s4⟩
  simp only [e2, Option.bind_some]
  refine e3.bind ?_
  simp only [e4, Option.bind_some, if_neg c0, if_neg c1]; exact Ev.now _
/-! #### DrawFields -/
def FB (l : List IFld) : Prop := ∀ x ∈ l, x.f0.size ≤ 1000 ∧ x.f1.size ≤ 1000
theorem FB_snoc {l : List IFld} {x : IFld} (h : FB l) (h0 : x.f0.size ≤ 1000) (h1 : x.f1.size ≤ 1000) : FB (l ++ [x]) := by
  intro y hy
  rcases List.mem_append.1 hy with hy | hy
  · exact h y hy
  · rw [List.mem_singleton.1 hy]; exact ⟨h0, h1⟩
theorem l5list_fill (b : List Int) : ∀ (m : Nat) (l : List IFld) (i h : Int), 22 - l.length = m → l.length ≤ 60 → FB l → StOk b i →
    ∃ r i' h', Ev (fun k => spec_l5list.l1 k l b i h) (r, i', h') ∧ r.length ≤ 60 ∧ FB r ∧ StOk b i' := by
  intro m
  induction m with
  | zero =>
    intro l i h hm hl hf hs
    obtain ⟨y, i1, h1, e1, y0, _, y1, s1⟩ := l1Below_ok b i h 2 hs
    have y2 := y1 (by omega)
    refine ⟨l, i1, h1, Ev.step (f := fun _ => some (l, i1, h1)) (fun k => ?_) (Ev.now _), hl, hf, s1⟩
    simp only [spec_l5list.l1, e1, Option.bind_some, wrap_id (a := 20 + y) (by omega) (by omega)]
    rw [if_neg (by omega)]
  | succ m ih =>
    intro l i h hm hl hf hs
    obtain ⟨y, i1, h1, e1, y0, _, y1, s1⟩ := l1Below_ok b i h 2 hs
    have y2 := y1 (by omega)
    by_cases c : (l.length : Int) < 20 + y
    · obtain ⟨r, i2, h2, e2, r1, r2, s2⟩ := ih (l ++ [(⟨(⟨#[70]⟩ : ByteArray), (⟨#[]⟩ : ByteArray)⟩ : IFld)]) i1 h1 (by simp; omega) (by simp; omega) (FB_snoc hf (by decide) (by decide)) s1
      refine ⟨r, i2, h2, Ev.step (fun k => ?_) e2, r1, r2, s2⟩
      simp only [spec_l5list.l1, e1, Option.bind_some, wrap_id (a := 20 + y) (by omega) (by omega)]
      rw [if_pos c, if_pos (by omega)]
    · refine ⟨l, i1, h1, Ev.step (f := fun _ => some (l, i1, h1)) (fun k => ?_) (Ev.now _), hl, hf, s1⟩
      simp only [spec_l5list.l1, e1, Option.bind_some, wrap_id (a := 20 + y) (by omega) (by omega)]
      rw [if_neg c]
theorem l5list_go (b : List Int) : ∀ (m : Nat) (l : List IFld) (i h n : Int), n.toNat = m → l.length + m ≤ 30 → FB l → StOk b i →
    ∃ r i' h', Ev (fun k => spec_l5list.l0 k l n b i h) (r, i', h') ∧ r.length ≤ 60 ∧ FB r ∧ StOk b i' := by
  intro m
  induction m with
  | zero =>
    intro l i h n hn hl hf hs
    obtain ⟨o, i1, h1, e1, s1⟩ := l1Once_ok b i h 12 hs
    cases o
    · refine ⟨l, i1, h1, Ev.step (f := fun _ => some (l, i1, h1)) (fun k => ?_) (Ev.now _), by omega, hf, s1⟩
      simp only [spec_l5list.l0]
      rw [if_neg (by omega), e1]
      simp only [Option.bind_some, Bool.false_eq_true, if_false]
    · obtain ⟨r, i2, h2, e2, r1, r2, s2⟩ := l5list_fill b _ l i1 h1 rfl (by omega) hf s1
      refine ⟨r, i2, h2, Ev.step (fun k => ?_) e2, r1, r2, s2⟩
      simp only [spec_l5list.l0]
      rw [if_neg (by omega), e1]
      simp only [Option.bind_some, if_true]
  | succ m ih =>
    intro l i h n hn hl hf hs
    obtain ⟨a, v, i1, h1, e1, a1, v1, s1⟩ := l5field_ok b i h hs
    obtain ⟨r, i2, h2, e2, r1, r2, s2⟩ := ih (l ++ [(⟨a, v⟩ : IFld)]) i1 h1 (n - 1) (by omega) (by simp; omega) (FB_snoc hf (by show a.size ≤ 1000; omega) (by show v.size ≤ 1000; omega)) s1
    refine ⟨r, i2, h2, ?_, r1, r2, s2⟩
    refine Ev.step (f := fun k => (spec_l5field.f k b i h).bind fun bt => spec_l5list.l0 k (l ++ [(⟨bt.1, bt.2.1⟩ : IFld)]) (n - 1) b bt.2.2.1 bt.2.2.2) (fun k => ?_) (e1.bind e2)
    simp only [spec_l5list.l0]
    rw [if_pos (by omega)]
    simp only [if_pos (show l.length < 4398046511104 by omega), wrap_id (a := n - 1) (by omega) (by omega)]
theorem l5list_ok (b : List Int) (i h : Int) (hs : StOk b i) : ∃ r i' h', Ev (fun k => spec_l5list.f k b i h) (r, i', h') ∧ r.length ≤ 60 ∧ FB r ∧ StOk b i' := by
  unfold spec_l5list.f
  obtain ⟨x, i1, h1, e1, x0, _, x1, s1⟩ := l1Below_ok b i h 7 hs
  have x2 := x1 (by omega)
  simp only [e1, Option.bind_some]
  exact l5list_go b x.toNat [] i1 h1 x rfl (by simp; omega) (by intro y hy; cases hy) s1
theorem getD_FB {l : List IFld} (hf : FB l) (z : IFld) (hz : z.f0.size ≤ 1000 ∧ z.f1.size ≤ 1000) (n : Nat) : (l.getD n z).f0.size ≤ 1000 ∧ (l.getD n z).f1.size ≤ 1000 := by
  rw [List.getD_eq_getElem?_getD]
  cases h : l[n]? with
  | none => exact hz
  | some y => exact hf y (List.mem_of_getElem? h)
theorem l5bent_ok (b : List Int) (i h : Int) (hs : StOk b i) : ∃ r i' h', Ev (fun k => spec_l5bent.f k b i h) (r, i', h') ∧ r.length ≤ 60 ∧ (∀ x ∈ r, x.f0.size ≤ 1001 ∧ x.f1.size ≤ 1001) ∧ StOk b i' := by
  unfold spec_l5bent.f
  obtain ⟨l, i1, h1, e1, l1, l2, s1⟩ := l5list_ok b i h hs
  obtain ⟨o, i2, h2, e2, s2⟩ := l1Once_ok b i1 h1 8 s1
  have hold : ∀ x ∈ l, x.f0.size ≤ 1001 ∧ x.f1.size ≤ 1001 := fun x hx => by have := l2 x hx; omega
  have hset : ∀ (n : Nat) (x : IFld), x.f0.size ≤ 1001 → x.f1.size ≤ 1001 → ∀ y ∈ l.set n x, y.f0.size ≤ 1001 ∧ y.f1.size ≤ 1001 := fun n x h0 h1 y hy => by
    rcases List.mem_or_eq_of_mem_set hy with hy | rfl
    · exact hold y hy
    · exact ⟨h0, h1⟩
  have hno : ∃ r i' h', Ev (fun k => spec_l5bent.j0 k l false b i2 h2) (r, i', h') ∧ r.length ≤ 60 ∧ (∀ x ∈ r, x.f0.size ≤ 1001 ∧ x.f1.size ≤ 1001) ∧ StOk b i' :=
    ⟨l, i2, h2, Ev.step (f := fun _ => some (l, i2, h2)) (fun k => by simp [spec_l5bent.j0]) (Ev.now _), l1, hold, s2⟩
  cases o
  · obtain ⟨r, i', h', e, r1, r2, s⟩ := hno
    refine ⟨r, i', h', e1.bind ?_, r1, r2, s⟩
    simp only [e2, Option.bind_some, Bool.false_eq_true, if_false]
    exact e
  by_cases c : (l.length : Int) > 0
  · have hd : decide ((l.length : Int) > 0) = true := decide_eq_true c
    obtain ⟨x, i3, h3, e3, x0, _, x1, s3⟩ := l1Below_ok b i2 h2 (l.length : Int) s2
    have x2 := x1 c
    obtain ⟨y, i4, h4, e4, y0, _, y1, s4⟩ := l1Below_ok b i3 h3 3 s3
    have hz := getD_FB l2 (⟨ByteArray.empty, ByteArray.empty⟩ : IFld) ⟨by decide, by decide⟩ x.toNat
    have hj : ∀ (F : Nat → Option (List IFld × Int × Int)) (r : List IFld × Int × Int), (∀ k, spec_l5bent.j0 (k + 1) l true b i2 h2 = F k) → Ev F r → Ev (fun k => (spec_l5list.f k b i h).bind fun bt => (spec_l1Once.f b bt.2.1 bt.2.2 8).bind fun bt1 => if bt1.1 = true then spec_l5bent.j0 k bt.1 (decide ((bt.1.length : Int) > 0)) b bt1.2.1 bt1.2.2 else spec_l5bent.j0 k bt.1 false b bt1.2.1 bt1.2.2) r := fun F r hF hr => by
      refine e1.bind ?_
      simp only [e2, Option.bind_some, if_true, hd]
      exact Ev.step hF hr
    by_cases c0 : y = 0
    · obtain ⟨t, i5, h5, e5, t5, s5⟩ := l1bend_ok b i4 h4 (rd_T30 l x).f0 (by have := hz.1; show (l.getD x.toNat (⟨ByteArray.empty, ByteArray.empty⟩ : IFld)).f0.size ≤ _; omega) s4
      refine ⟨l.set x.toNat ⟨t, (rd_T30 l x).f1⟩, i5, h5, hj (fun _ => some (l.set x.toNat ⟨t, (rd_T30 l x).f1⟩, i5, h5)) _ (fun k => ?_) (Ev.now _), by simp; omega, hset _ _ ?_ ?_, s5⟩
      · simp only [spec_l5bent.j0, if_true, e3, Option.bind_some, e4, if_pos c0, if_pos x0, if_pos x2, e5]
      · have := hz.1; show t.size ≤ 1001; have q : t.size ≤ (l.getD x.toNat (⟨ByteArray.empty, ByteArray.empty⟩ : IFld)).f0.size + 1 := t5; omega
      · have := hz.2; show (l.getD x.toNat (⟨ByteArray.empty, ByteArray.empty⟩ : IFld)).f1.size ≤ 1001; omega
    by_cases c1 : y = 1
    · have hb : 1 + ((rd_T30 l x).f1).size ≤ 9223372036854775807 := by have := hz.2; show 1 + (l.getD x.toNat (⟨ByteArray.empty, ByteArray.empty⟩ : IFld)).f1.size ≤ _; omega
      refine ⟨l.set x.toNat ⟨(rd_T30 l x).f0, (⟨#[32]⟩ : ByteArray) ++ (rd_T30 l x).f1⟩, i4, h4, hj (fun _ => some (l.set x.toNat ⟨(rd_T30 l x).f0, (⟨#[32]⟩ : ByteArray) ++ (rd_T30 l x).f1⟩, i4, h4)) _ (fun k => ?_) (Ev.now _), by simp; omega, hset _ _ ?_ ?_, s4⟩
      · simp only [spec_l5bent.j0, if_true, e3, Option.bind_some, e4, if_neg c0, if_pos c1, if_pos x0, if_pos x2, if_pos hb]
      · have := hz.1; show (l.getD x.toNat (⟨ByteArray.empty, ByteArray.empty⟩ : IFld)).f0.size ≤ 1001; omega
      · have := hz.2; show ((⟨#[32]⟩ : ByteArray) ++ (l.getD x.toNat (⟨ByteArray.empty, ByteArray.empty⟩ : IFld)).f1).size ≤ 1001; rw [ByteArray.size_append]; show 1 + _ ≤ _; omega
    · obtain ⟨t, i5, h5, e5, t5, s5⟩ := l1bend_ok b i4 h4 (rd_T30 l x).f1 (by have := hz.2; show (l.getD x.toNat (⟨ByteArray.empty, ByteArray.empty⟩ : IFld)).f1.size ≤ _; omega) s4
      refine ⟨l.set x.toNat ⟨(rd_T30 l x).f0, t⟩, i5, h5, hj (fun _ => some (l.set x.toNat ⟨(rd_T30 l x).f0, t⟩, i5, h5)) _ (fun k => ?_) (Ev.now _), by simp; omega, hset _ _ ?_ ?_, s5⟩
      · simp only [spec_l5bent.j0, if_true, e3, Option.bind_some, e4, if_neg c0, if_neg c1, if_pos x0, if_pos x2, e5]
      · have := hz.1; show (l.getD x.toNat (⟨ByteArray.empty, ByteArray.empty⟩ : IFld)).f0.size ≤ 1001; omega
      · have := hz.2; show t.size ≤ 1001; have q : t.size ≤ (l.getD x.toNat (⟨ByteArray.empty, ByteArray.empty⟩ : IFld)).f1.size + 1 := t5; omega
  · have hd : decide ((l.length : Int) > 0) = false := decide_eq_false c
    obtain ⟨r, i', h', e, r1, r2, s⟩ := hno
    refine ⟨r, i', h', e1.bind ?_, r1, r2, s⟩
    simp only [e2, Option.bind_some, if_true, hd]
    exact e
/-! #### Without -/
theorem filtF_go (L : Nat → List IFld → List IFld → Int → Option (List IFld)) (p : IFld → Bool) (ok : IFld → Prop) (z : IFld)
    (hstep : ∀ k l acc (i : Int), 0 ≤ i → i < (l.length : Int) → acc.length < 4398046511104 → ok (l.getD i.toNat z) → L (k + 1) l acc i = if p (l.getD i.toNat z) = true then L k l acc (wrap64 (i + 1)) else L k l (acc ++ [l.getD i.toNat z]) (wrap64 (i + 1)))
    (hend : ∀ k l acc, L (k + 1) l acc (l.length : Int) = some acc) :
    ∀ (r pre acc : List IFld), (∀ x ∈ r, ok x) → (pre ++ r).length ≤ 1048576 → acc.length ≤ pre.length → Ev (fun k => L k (pre ++ r) acc (pre.length : Int)) (acc ++ r.filter fun x => !p x)
  | [], pre, acc, _, _, _ => Ev.step (f := fun _ => some acc) (fun k => by have := hend k pre acc; simpa using this) (by simpa using Ev.now acc)
  | x :: r, pre, acc, ho, hl, ha => by
    have hl2 := hl
    simp at hl2
    have hg : (pre ++ x :: r).getD ((pre.length : Int)).toNat z = x := getD_mid pre x r z
    have hw : wrap64 ((pre.length : Int) + 1) = (pre.length : Int) + 1 := wrap_id (by omega) (by omega)
    have ih := fun acc' h => filtF_go L p ok z hstep hend r (pre ++ [x]) acc' (fun y hy => ho y (List.mem_cons_of_mem _ hy)) (by rw [← app_mid]; exact hl) h
    simp only [← app_mid, len_snoc] at ih
    have hs := fun k => hstep k (pre ++ x :: r) acc (pre.length : Int) (by omega) (len_mid ..) (by omega) (by rw [hg]; exact ho x (by simp))
    simp only [hg, hw] at hs
    cases hp : p x
    · refine Ev.step (f := fun k => L k (pre ++ x :: r) (acc ++ [x]) ((pre.length : Int) + 1)) (fun k => by rw [hs k, hp, if_neg Bool.false_ne_true]) ?_
      have := ih (acc ++ [x]) (by simp; omega)
      simpa [List.filter, hp] using this
    · refine Ev.step (f := fun k => L k (pre ++ x :: r) acc ((pre.length : Int) + 1)) (fun k => by rw [hs k, hp, if_pos rfl]) ?_
      have := ih acc (by simp; omega)
      simpa [List.filter, hp] using this
/-! #### SameFields -/
theorem sameFields_is (l : List IFld) (hl : l.length ≤ 1048576) : Ev (fun k => laws_sameFields.f k l l) true := by
  unfold laws_sameFields.f
  simp only [if_true]
  exact eqS_ev (fun k l m i => laws_sameFields.l0 k l m i) (fun k l i h0 h1 => by
    simp only [laws_sameFields.l0]
    rw [if_pos h1, if_pos h0, if_pos h1]
    simp) (fun k l => by simp only [laws_sameFields.l0]; rw [if_neg (by omega)]) l hl
theorem hopMem_compact {α : Type} [Inhabited α] [DecidableEq α] (zs : List α) (x : α) : x ∈ Go.Lib.compact zs ↔ x ∈ zs := by
  unfold Go.Lib.compact Go.Lib.compactUpTo
  constructor
  · intro h
    obtain ⟨i, hi, rfl⟩ := List.mem_map.1 h
    have hi' : i < zs.length := List.mem_range.1 (List.mem_filter.1 hi).1
    simp [getElem!_pos, hi']
  · intro h
    obtain ⟨i, hi, hx⟩ := List.getElem_of_mem h
    suffices hs : ∀ i, i < zs.length → zs.toArray[i]! = x → ∃ j, j < zs.length ∧ zs.toArray[j]! = x ∧ Go.Lib.keeps zs.toArray j = true by
      obtain ⟨j, h1, h2, h3⟩ := hs i hi (by simp [getElem!_pos, hi, hx])
      exact List.mem_map.2 ⟨j, List.mem_filter.2 ⟨List.mem_range.2 h1, h3⟩, h2⟩
    intro i
    induction i with
    | zero => intro h0 h1; exact ⟨0, h0, h1, by simp [Go.Lib.keeps]⟩
    | succ n ih =>
      intro h0 h1
      by_cases hk : zs.toArray[n + 1]! = zs.toArray[n]!
      · exact ih (by omega) (hk ▸ h1)
      · exact ⟨n + 1, h0, h1, by simp only [Go.Lib.keeps, decide_eq_true_eq]; exact .inr hk⟩
theorem hopMem_back (b : ByteArray) : (⟨b.data.toList.toArray⟩ : ByteArray) = b := by simp
theorem hopMem_map (l : List (List UInt8)) (l0 : List ByteArray) (h : ∀ x, x ∈ l ↔ x ∈ l0.map (·.data.toList)) (y : ByteArray) : y ∈ l.map (fun b => (⟨b.toArray⟩ : ByteArray)) ↔ y ∈ l0 := by
  constructor
  · intro hy
    obtain ⟨b, hb, rfl⟩ := List.mem_map.1 hy
    obtain ⟨c, hc, rfl⟩ := List.mem_map.1 ((h b).1 hb)
    simpa using hc
  · intro hy
    refine List.mem_map.2 ⟨y.data.toList, (h _).2 (List.mem_map.2 ⟨y, hy, rfl⟩), hopMem_back y⟩
theorem hopMem (l : List ByteArray) (y : ByteArray) : y ∈ hopSort l ↔ y ∈ l := by
  unfold hopSort slices_Compact_string_string.cpt
  rw [hopMem_map _ (slices_Sort_string_string.srt l) (fun x => hopMem_compact _ x) y]
  unfold slices_Sort_string_string.srt
  exact hopMem_map _ l (fun x => List.mem_mergeSort) y
theorem l5in_go : ∀ (r pre : List ByteArray) (y : ByteArray), (pre ++ r).length ≤ 1048576 → Ev (fun k => spec_l5in.l0 k (pre ++ r) y (pre.length : Int)) (Go.Lib.containsS r y)
  | [], pre, y, _ => Ev.step (f := fun _ => some false) (fun k => by simp [spec_l5in.l0]) (by rw [show Go.Lib.containsS [] y = false from rfl]; exact Ev.now false)
  | x :: r, pre, y, hl => by
    have hl2 := hl
    simp at hl2
    have hrd : rdOf ByteArray.empty (pre ++ x :: r) (pre.length : Int) = x := getD_mid pre x r _
    have hw : wrap64 ((pre.length : Int) + 1) = (pre.length : Int) + 1 := wrap_id (by omega) (by omega)
    have ih := l5in_go r (pre ++ [x]) y (by rw [← app_mid]; exact hl)
    simp only [← app_mid, len_snoc] at ih
    by_cases hx : x = y
    · subst hx
      refine Ev.step (f := fun _ => some true) (fun k => ?_) (by rw [(Go.Lib.containsS_iff (x :: r) x).2 (by simp)]; exact Ev.now true)
      simp only [spec_l5in.l0]
      rw [if_pos (len_mid ..), if_pos (by omega), hrd, if_pos rfl]
    · have hne : ¬ x.toList = y.toList := fun h => hx (toList_inj h)
      refine Ev.step (f := fun k => spec_l5in.l0 k (pre ++ x :: r) y ((pre.length : Int) + 1)) (fun k => ?_) ?_
      · simp only [spec_l5in.l0]
        rw [if_pos (len_mid ..), if_pos (by omega), hrd, if_neg hne, hw]
      · have e1 : Go.Lib.containsS (x :: r) y = Go.Lib.containsS r y := by rw [Bool.eq_iff_iff, Go.Lib.containsS_iff, Go.Lib.containsS_iff]; simp [Ne.symm hx]
        rw [e1]; exact ih
theorem l5put_go : ∀ (r pre acc : List ByteArray) (b : Bool) (y : ByteArray), (pre ++ r).length ≤ 1048576 → acc.length ≤ 2 * pre.length →
    ∃ o, Ev (fun k => spec_l5put.l0 k (pre ++ r) y acc b (pre.length : Int)) o ∧ o.length + b.toNat ≤ acc.length + r.length + 1 ∧ ∀ z, z ∈ o ↔ (z ∈ acc ∨ z ∈ r ∨ (b = false ∧ z = y))
  | [], pre, acc, b, y, hl, ha => by
    simp at hl
    cases b
    · refine ⟨acc ++ [y], Ev.step (f := fun _ => some (acc ++ [y])) (fun k => ?_) (Ev.now _), by simp, by simp⟩
      simp only [spec_l5put.l0]
      rw [if_neg (by simp), if_neg (by simp), if_pos (by omega)]
    · refine ⟨acc, Ev.step (f := fun _ => some acc) (fun k => ?_) (Ev.now _), by simp, by simp⟩
      simp only [spec_l5put.l0]
      rw [if_neg (by simp), if_pos trivial]
  | x :: r, pre, acc, b, y, hl, ha => by
    have hl2 := hl
    simp at hl2
    have hrd : rdOf ByteArray.empty (pre ++ x :: r) (pre.length : Int) = x := getD_mid pre x r _
    have hw : wrap64 ((pre.length : Int) + 1) = (pre.length : Int) + 1 := wrap_id (by omega) (by omega)
    have ih := fun acc b h => l5put_go r (pre ++ [x]) acc b y (by rw [← app_mid]; exact hl) h
    simp only [← app_mid, len_snoc] at ih
    cases b
    · by_cases hb : Op.bytesLess y.toList x.toList = true
      · obtain ⟨o, ho, h1, h2⟩ := ih (acc ++ [y] ++ [x]) true (by simp; omega)
        refine ⟨o, Ev.step (fun k => ?_) ho, by simp at h1 ⊢; omega, fun z => ?_⟩
        · simp only [spec_l5put.l0]
          rw [if_pos (len_mid ..), if_neg (by simp), if_pos (by omega), hrd, if_pos hb, if_pos (by omega), Option.bind_some, if_pos (by simp; omega), hw]
        · rw [h2 z]; simp only [List.mem_append, List.mem_singleton, List.mem_cons]; grind
      · obtain ⟨o, ho, h1, h2⟩ := ih (acc ++ [x]) false (by simp; omega)
        refine ⟨o, Ev.step (fun k => ?_) ho, by simp at h1 ⊢; omega, fun z => ?_⟩
        · simp only [spec_l5put.l0]
          rw [if_pos (len_mid ..), if_neg (by simp), if_pos (by omega), hrd, if_neg hb, if_pos (by omega), hw]
        · rw [h2 z]; simp only [List.mem_append, List.mem_singleton, List.mem_cons]; grind
    · obtain ⟨o, ho, h1, h2⟩ := ih (acc ++ [x]) true (by simp; omega)
      refine ⟨o, Ev.step (fun k => ?_) ho, by simp at h1 ⊢; omega, fun z => ?_⟩
      · simp only [spec_l5put.l0]
        rw [if_pos (len_mid ..), if_pos trivial, if_pos (by omega), if_pos (by omega), hrd, hw]
      · rw [h2 z]; simp only [List.mem_append, List.mem_singleton, List.mem_cons]; grind
theorem l5put_ok (l : List ByteArray) (y : ByteArray) (hl : l.length ≤ 1048576) : ∃ o, Ev (fun k => spec_l5put.f k l y) o ∧ o.length ≤ l.length + 2 ∧ ∀ z, z ∈ o ↔ (z = y ∨ z ∈ l) := by
  unfold spec_l5put.f
  have h1 : Ev (fun k => spec_l5in.f k l y) (Go.Lib.containsS l y) := l5in_go l [] y (by simpa using hl)
  by_cases hy : y ∈ l
  · refine ⟨l, h1.bind ?_, by omega, fun z => ⟨.inr, fun h => h.elim (fun e => e ▸ hy) id⟩⟩
    rw [(Go.Lib.containsS_iff l y).2 hy]; simp only [if_true]; exact Ev.now _
  · obtain ⟨o, ho, h2, h3⟩ := l5put_go l [] [] false y (by simpa using hl) (by simp)
    refine ⟨o, h1.bind ?_, by simp at h2 ⊢; omega, fun z => by rw [h3 z]; simp only [List.not_mem_nil]; grind⟩
    rw [show Go.Lib.containsS l y = false from by rw [Bool.eq_false_iff]; intro h; exact hy ((Go.Lib.containsS_iff l y).1 h)]; simp only [Bool.false_eq_true, if_false]; exact ho
theorem specHop_go : ∀ (r pre out : List ByteArray), (∀ x ∈ r, x.size ≤ 1048576) → (pre ++ r).length ≤ 100000 → out.length + 2 * r.length ≤ 1000000 →
    ∃ o, Ev (fun k => spec_HopNames.l0 k out (pre ++ r) (pre.length : Int)) o ∧ o.length ≤ out.length + 2 * r.length ∧ ∀ z, z ∈ o ↔ (z ∈ out ∨ z ∈ hopAdd r)
  | [], pre, out, _, _, _ => ⟨out, Ev.step (f := fun _ => some out) (fun k => by simp [spec_HopNames.l0]) (Ev.now _), by simp, by simp [hopAdd]⟩
  | x :: r, pre, out, hx, hl, ho => by
    have hl2 := hl
    simp at hl2 ho
    have hrd : rdOf ByteArray.empty (pre ++ x :: r) (pre.length : Int) = x := getD_mid pre x r _
    have ih := fun o h => specHop_go r (pre ++ [x]) o (fun y hy => hx y (List.mem_cons_of_mem _ hy)) (by rw [← app_mid]; exact hl) h
    simp only [← app_mid, len_snoc] at ih
    have hw : wrap64 ((pre.length : Int) + 1) = (pre.length : Int) + 1 := wrap_id (by omega) (by omega)
    have hst : ∀ k, spec_HopNames.l0 (k + 1) out (pre ++ x :: r) (pre.length : Int) = (spec_Token.f k x).bind fun t => if t = true then ((spec_Fold.f x).bind fun q => ((spec_l5put.f k out q).bind fun p => spec_HopNames.l0 k p (pre ++ x :: r) ((pre.length : Int) + 1))) else spec_HopNames.l0 k out (pre ++ x :: r) ((pre.length : Int) + 1) := by
      intro k
      simp only [spec_HopNames.l0]
      rw [if_pos (len_mid ..), if_pos (by omega), hrd, hw]
    cases ht : tokenL (bl x)
    · obtain ⟨o, e1, e2, e3⟩ := ih out (by omega)
      refine ⟨o, Ev.step hst ((specToken_is x).bind ?_), by simp; omega, fun z => by rw [e3 z]; simp [hopAdd, ht]⟩
      simp only [ht, Bool.false_eq_true, if_false]; exact e1
    · obtain ⟨p, p1, p2, p3⟩ := l5put_ok out (lowS x) (by omega)
      obtain ⟨o, e1, e2, e3⟩ := ih p (by omega)
      refine ⟨o, Ev.step hst ((specToken_is x).bind ?_), by simp; omega, fun z => by rw [e3 z, p3 z]; simp only [hopAdd, List.filter_cons_of_pos ht, List.map_cons, List.mem_cons]; grind⟩
      simp only [ht, if_true, specFold_is x (by have := hx x (by simp); omega), Option.bind_some]
      exact p1.bind e1
theorem hopSmall (l : List IFld) : (∀ x ∈ wordsL l hopC, x.size ≤ 1048576) ∧ (wordsL l hopC).length ≤ 4001 := by
  have hb := elementsL_bnd (bl (joined (vals l hopC)))
  exact ⟨fun x hx => by have := hb.2 x hx; omega, hb.1⟩
theorem specHopNames_is (l : List IFld) (hl : l.length ≤ 1048576) (ht : totF l ≤ 1048576) :
    ∃ o, Ev (fun k => spec_HopNames.f k l) o ∧ o.length ≤ 1000000 ∧ (fldsOk l = false → o = []) ∧ (fldsOk l = true → ∀ z, z ∈ o ↔ (z ∈ hop7 ∨ z ∈ hopAdd (wordsL l hopC))) := by
  unfold spec_HopNames.f
  cases hf : fldsOk l
  · refine ⟨[], ?_, by simp, fun _ => rfl, fun h => by simp at h⟩
    have h1 := specFieldsOk_is l
    rw [hf] at h1
    refine h1.bind ?_
    simpa using Ev.now _
  · obtain ⟨h1, h2⟩ := hopSmall l
    obtain ⟨o, e1, e2, e3⟩ := specHop_go (wordsL l hopC) [] hop7 h1 (by simp only [List.nil_append]; omega) (by show 7 + _ ≤ _; omega)
    refine ⟨o, ?_, by have : hop7.length = 7 := rfl; omega, fun h => by simp at h, fun _ => e3⟩
    have h0 := specFieldsOk_is l
    rw [hf] at h0
    refine h0.bind ?_
    simp only [if_true]
    exact (specWords_is l hopC hl ht (by decide)).bind e1
def keepH (l : List IFld) (hs : List ByteArray) : List IFld := if fldsOk l = true then l.filter (fun x => !Go.Lib.containsS hs (lowS x.f0)) else []
theorem implEnd_g (l : List IFld) (hs : List ByteArray) (hl : l.length ≤ 1048576) (ho : ∀ x ∈ l, smallF x) : Ev (fun k => impl_EndToEnd.g k l hs) (keepH l hs) := by
  unfold impl_EndToEnd.g keepH
  refine (implFieldsOk_is l).bind ?_
  cases fldsOk l
  · simpa using Ev.now _
  · simp only [if_true]
    have := filtF_go (fun k l acc i => impl_EndToEnd.l0 k hs acc l (l.length : Int) i) (fun x => Go.Lib.containsS hs (lowS x.f0)) smallF (⟨ByteArray.empty, ByteArray.empty⟩ : IFld)
      (fun k l acc i h0 h1 ha hok => by
        show impl_EndToEnd.l0 (k + 1) hs acc l (l.length : Int) i = _
        simp only [impl_EndToEnd.l0]
        rw [if_pos h1, if_pos h0, if_pos h1, show (rd_T30 l i) = l.getD i.toNat (⟨ByteArray.empty, ByteArray.empty⟩ : IFld) from rfl]
        unfold impl_EndToEnd.ask
        rw [implFold_is _ (by have := hok.1; omega), Option.bind_some, Option.bind_some]
        simp only [if_pos ha])
      (fun k l acc => by simp only [impl_EndToEnd.l0]; rw [if_neg (by omega)]) l [] [] ho (by simpa using hl) (by simp)
    simpa using this
theorem implEnd_is (l : List IFld) (hl : l.length ≤ 1048576) (ht : totF l ≤ 1048576) (ho : ∀ x ∈ l, smallF x) : Ev (fun k => impl_EndToEnd.f k l) (keepH l (hopsL l)) := by
  unfold impl_EndToEnd.f
  exact (implHopNames_is l hl ht).bind (implEnd_g l _ hl ho)
theorem lowI_byte (b : UInt8) : lowI ((lowI (b.toNat : Int)).toNat.toUInt8.toNat : Int) = lowI (b.toNat : Int) := by
  have h : ∀ n : Fin 256, lowI ((lowI ((n.val : Nat) : Int)).toNat.toUInt8.toNat : Int) = lowI ((n.val : Nat) : Int) := by decide +kernel
  exact h ⟨b.toNat, b.toNat_lt⟩
theorem lowS_lowS (y : ByteArray) : lowS (lowS y) = lowS y := by
  unfold lowS
  congr 1
  unfold bytesOf strOfNums
  simp only [List.map_map]
  apply List.map_congr_left
  intro b _
  simp only [Function.comp]
  exact lowI_byte b
theorem hop7_low : ∀ y ∈ hop7, lowS y = y := by
  intro y hy
  simp only [hop7, List.mem_cons, List.not_mem_nil, or_false] at hy
  rcases hy with h | h | h | h | h | h | h <;> subst h <;> decide +kernel
theorem hop7_small : ∀ y ∈ hop7, y.size ≤ 1048576 := by
  intro y hy
  simp only [hop7, List.mem_cons, List.not_mem_nil, or_false] at hy
  rcases hy with h | h | h | h | h | h | h <;> subst h <;> decide
theorem hopC_in : hopC ∈ hop7 := by simp [hop7, hopC]
theorem hopAdd_low (w : List ByteArray) : ∀ y ∈ hopAdd w, lowS y = y := by
  intro y hy
  obtain ⟨x, _, rfl⟩ := List.mem_map.1 hy
  exact lowS_lowS x
theorem any_hop (hop : List ByteArray) (hlow : ∀ y ∈ hop, lowS y = y) (n : ByteArray) : hop.any (fun y => sameB n y) = Go.Lib.containsS hop (lowS n) := by
  rw [Bool.eq_iff_iff, List.any_eq_true, Go.Lib.containsS_iff]
  constructor
  · rintro ⟨y, hy, h⟩
    unfold sameB at h
    have := toList_inj (beq_iff_eq.1 h)
    rw [this, hlow y hy]; exact hy
  · intro h
    refine ⟨_, h, ?_⟩
    unfold sameB
    rw [lowS_lowS]; simp
theorem eqFld (p q : IFld) (h : p = q) : (!((p.f0).toList == (q.f0).toList) || (!((p.f1).toList == (q.f1).toList))) = false := by subst h; simp
theorem hopsIn (x3 x4 : List IFld) (n i : Int) (f : IFld) (hi0 : 0 ≤ i) (hi : i < (x3.length : Int)) (hf : rd_T30 x3 i = f) (hfs : f.f0.size ≤ 1048576) (res : Bool) (hop : List ByteArray) (hop_s : ∀ y ∈ hop, y.size ≤ 1048576) (hh : hop.length ≤ 1000000)
    (hend : ∀ F : Nat → Option Bool, (∀ k, laws_FnHops.l1 (k + 1) x3 x4 hop n i (hop.any fun y => sameB f.f0 y) (hop.length : Int) = F k) → Ev F res) :
    ∀ (r pre : List ByteArray) (b : Bool), hop = pre ++ r → b = (pre.any fun y => sameB f.f0 y) → Ev (fun k => laws_FnHops.l1 k x3 x4 hop n i b (pre.length : Int)) res
  | [], pre, b, hp, hb => by
    subst hb
    simp only [List.append_nil] at hp
    subst hp
    exact Ev.step (fun k => rfl) (hend _ (fun k => rfl))
  | y :: r, pre, b, hp, hb => by
    have hl2 := hh
    rw [hp] at hl2
    simp at hl2
    have hrd : rdOf ByteArray.empty hop (pre.length : Int) = y := by rw [hp]; exact getD_mid pre y r _
    have hw : wrap64 ((pre.length : Int) + 1) = (pre.length : Int) + 1 := wrap_id (by omega) (by omega)
    have ih := fun b' h => hopsIn x3 x4 n i f hi0 hi hf hfs res hop hop_s hh hend r (pre ++ [y]) b' (by rw [← app_mid]; exact hp) h
    simp only [len_snoc] at ih
    have hlt : (pre.length : Int) < (hop.length : Int) := by rw [hp]; exact len_mid ..
    cases b
    · refine Ev.step (f := fun k => laws_FnHops.l1 k x3 x4 hop n i (sameB f.f0 y) ((pre.length : Int) + 1)) (fun k => ?_) (ih _ (by simp [← hb]))
      simp only [laws_FnHops.l1]
      rw [if_pos hlt, if_neg (by simp), if_pos hi0, if_pos hi, if_pos (by omega), hf, hrd, specSame_is _ _ (by omega) (by have := hop_s y (by rw [hp]; simp); omega), Option.bind_some, hw]
    · refine Ev.step (f := fun k => laws_FnHops.l1 k x3 x4 hop n i true ((pre.length : Int) + 1)) (fun k => ?_) (ih _ (by simp [← hb]))
      simp only [laws_FnHops.l1]
      rw [if_pos hlt, if_pos trivial, hw]
theorem hopsOut (l X : List IFld) (hop : List ByteArray) (hl : l.length ≤ 1048576) (hsm : ∀ x ∈ l, smallF x) (hop_s : ∀ y ∈ hop, y.size ≤ 1048576) (hh : hop.length ≤ 1000000) (hne : 0 < hop.length)
    (hX : X = l.filter fun x => !(hop.any fun y => sameB x.f0 y))
    (tail : Ev (fun k => (impl_EndToEnd.f k X).bind fun t374 => ((laws_sameFields.f k t374 X).bind fun t377 => (if t377 = true then ((laws_heads.f k).bind fun t378 => (some t378)) else (some false)))) true) :
    ∀ r pre, l = pre ++ r → Ev (fun k => laws_FnHops.l0 k l X hop (((pre.filter fun x => !(hop.any fun y => sameB x.f0 y)).length : Nat) : Int) (pre.length : Int)) true
  | [], pre, hp => by
    simp only [List.append_nil] at hp
    subst hp
    rw [← hX]
    refine Ev.step (f := fun k => laws_FnHops.j1 k l X hop (X.length : Int) (l.length : Int) false) (fun k => by simp only [laws_FnHops.l0]; rw [if_neg (by omega)]) ?_
    refine Ev.step (fun k => ?_) tail
    simp only [laws_FnHops.j1]
    rw [if_neg (by simp), if_pos trivial]
  | f :: r, pre, hp => by
    have hl2 := hl
    rw [hp] at hl2
    simp at hl2
    have ih := hopsOut l X hop hl hsm hop_s hh hne hX tail r (pre ++ [f]) (by rw [← app_mid]; exact hp)
    simp only [len_snoc] at ih
    have hw : wrap64 ((pre.length : Int) + 1) = (pre.length : Int) + 1 := wrap_id (by omega) (by omega)
    have hlt : (pre.length : Int) < (l.length : Int) := by rw [hp]; exact len_mid ..
    have hrd : rd_T30 l (pre.length : Int) = f := by rw [hp]; exact getD_mid pre f r _
    refine Ev.step (f := fun k => laws_FnHops.j1 k l X hop (((pre.filter fun x => !(hop.any fun y => sameB x.f0 y)).length : Nat) : Int) (pre.length : Int) true) (fun k => ?_) ?_
    · simp only [laws_FnHops.l0]
      rw [if_pos hlt, show decide ((hop.length : Int) > 0) = true from decide_eq_true (by omega)]
    refine Ev.step (f := fun k => laws_FnHops.l1 k l X hop (((pre.filter fun x => !(hop.any fun y => sameB x.f0 y)).length : Nat) : Int) (pre.length : Int) false 0) (fun k => ?_) ?_
    · simp only [laws_FnHops.j1]
      rw [if_pos trivial]
    refine hopsIn l X _ (pre.length : Int) f (by omega) hlt hrd (by have := hsm f (by rw [hp]; simp); exact this.1) true hop hop_s hh ?_ hop [] false rfl rfl
    intro F hF
    cases ha : hop.any fun y => sameB f.f0 y
    · have hXn : X = (pre.filter fun x => !(hop.any fun y => sameB x.f0 y)) ++ f :: (r.filter fun x => !(hop.any fun y => sameB x.f0 y)) := by
        rw [hX, hp, List.filter_append, List.filter_cons_of_pos (by simp [ha])]
      have hfl : (pre.filter fun x => !(hop.any fun y => sameB x.f0 y)).length ≤ pre.length := List.length_filter_le _ _
      have e1 : F = fun k => laws_FnHops.l0 k l X hop (((pre.filter fun x => !(hop.any fun y => sameB x.f0 y)).length : Int) + 1) ((pre.length : Int) + 1) := by
        funext k
        rw [← hF k, ha]
        have hlx : ((pre.filter fun x => !(hop.any fun y => sameB x.f0 y)).length : Int) < (X.length : Int) := by rw [hXn]; exact len_mid ..
        have hrx : rd_T30 X ((pre.filter fun x => !(hop.any fun y => sameB x.f0 y)).length : Int) = f := by rw [hXn]; exact getD_mid _ f _ _
        simp only [laws_FnHops.l1]
        rw [if_neg (by omega), if_neg (by simp), if_neg (by omega), if_pos (by omega), if_pos hlx, if_pos (by omega), if_pos hlt, hrx, hrd, eqFld f f rfl, if_neg (by simp), hw, wrap_id (a := _ + 1) (by omega) (by omega)]
      rw [e1]
      rw [List.filter_append, List.filter_cons_of_pos (by simp [ha])] at ih
      simpa using ih
    · have e1 : F = fun k => laws_FnHops.l0 k l X hop ((pre.filter fun x => !(hop.any fun y => sameB x.f0 y)).length : Int) ((pre.length : Int) + 1) := by
        funext k
        rw [← hF k, ha]
        simp only [laws_FnHops.l1]
        rw [if_neg (by omega), if_pos trivial, hw]
      rw [e1]
      rw [List.filter_append, List.filter_cons_of_neg (by simp [ha])] at ih
      simpa using ih
theorem totF_le : ∀ l : List IFld, (∀ x ∈ l, x.f0.size ≤ 1001 ∧ x.f1.size ≤ 1001) → totF l ≤ 2002 * l.length
  | [], _ => by simp [totF]
  | x :: r, h => by
    have ih := totF_le r (fun y hy => h y (List.mem_cons_of_mem _ hy))
    have hx := h x (by simp)
    simp only [totF, List.map_cons, List.sum_cons, List.length_cons] at ih ⊢
    omega
theorem drawEnd_ok (l : List Int) (hl : l.length ≤ 9223372036854775807) : ∃ r : List IFld, Ev (fun k => spec_DrawEndToEnd.f k l) r ∧ r.length ≤ 60 ∧ (∀ x ∈ r, x.f0.size ≤ 1001 ∧ x.f1.size ≤ 1001) := by
  unfold spec_DrawEndToEnd.f
  obtain ⟨h0, e0⟩ := l1New_ok l hl
  obtain ⟨r, i1, h1, e1, r1, r2, s1⟩ := l5bent_ok l 0 h0 (StOk_new l hl)
  exact ⟨r, e0.bind (e1.bind (Ev.now _)), r1, r2⟩
theorem keepH_self (X : List IFld) (hs : List ByteArray) (hX : fldsOk X = true) (h : ∀ x ∈ X, ¬ Go.Lib.containsS hs (lowS x.f0) = true) : keepH X hs = X := by
  unfold keepH
  rw [if_pos hX]
  apply List.filter_eq_self.2
  intro x hx
  cases hc : Go.Lib.containsS hs (lowS x.f0)
  · rfl
  · exact absurd hc (h x hx)
theorem keepH_again (r : List IFld) : keepH (keepH r (hopsL r)) (hopsL (keepH r (hopsL r))) = keepH r (hopsL r) := by
  cases hf : fldsOk r
  · have e : keepH r (hopsL r) = [] := by unfold keepH; rw [if_neg (by simp [hf])]
    rw [e]; unfold keepH; split <;> simp
  · have e : keepH r (hopsL r) = r.filter (fun x => !Go.Lib.containsS (hopsL r) (lowS x.f0)) := by unfold keepH; rw [if_pos hf]
    have hsub : ∀ x ∈ keepH r (hopsL r), x ∈ r ∧ lowS x.f0 ∉ hopsL r := by
      intro x hx
      rw [e] at hx
      obtain ⟨h1, h2⟩ := List.mem_filter.1 hx
      refine ⟨h1, fun h => ?_⟩
      rw [(Go.Lib.containsS_iff _ _).2 h] at h2
      exact absurd h2 (by decide)
    have hX : fldsOk (keepH r (hopsL r)) = true := by
      have hall := hf
      unfold fldsOk at hall ⊢
      simp only [Bool.and_eq_true, decide_eq_true_eq, List.all_eq_true] at hall ⊢
      refine ⟨Nat.le_trans ?_ hall.1, fun x hx => hall.2 x (hsub x hx).1⟩
      rw [e]; exact List.length_filter_le _ _
    have h7 : ∀ y ∈ hop7, y ∈ hopsL r := by
      intro y hy
      unfold hopsL
      rw [if_pos hf, hopMem]
      exact List.mem_append_left _ hy
    have hv : vals (keepH r (hopsL r)) hopC = [] := by
      unfold vals valsF
      rw [if_pos hX]
      rw [List.filter_eq_nil_iff.2 (fun x hx => ?_)]
      · rfl
      · intro h
        unfold sameB at h
        have h2 := toList_inj (beq_iff_eq.1 h)
        refine (hsub x hx).2 ?_
        rw [h2, hop7_low hopC hopC_in]
        exact h7 _ hopC_in
    have hwd : wordsL (keepH r (hopsL r)) hopC = [] := by
      unfold wordsL
      rw [hv]
      rfl
    have hhops : hopsL (keepH r (hopsL r)) = hopSort hop7 := by
      unfold hopsL at hX ⊢
      rw [if_pos (by simpa only [hopsL] using hX)]
      simp only [hopsL] at hwd
      rw [hwd]
      simp [hopAdd]
    rw [hhops]
    refine keepH_self _ _ hX fun x hx hc => ?_
    exact (hsub x hx).2 (h7 _ ((hopMem _ _).1 ((Go.Lib.containsS_iff _ _).1 hc)))
theorem FnHops : laws_FnHops.Pure := by
  intro l ⟨hl, _⟩
  refine Ev.rounds ?_
  unfold laws_FnHops.f
  obtain ⟨r, hd, hr, hf⟩ := drawEnd_ok l hl
  have hsm : ∀ x ∈ r, smallF x := fun x hx => ⟨by have := hf x hx; omega, by have := hf x hx; omega⟩
  have ht : totF r ≤ 1048576 := by have := totF_le r hf; omega
  obtain ⟨o, ho, o1, o2, o3⟩ := specHopNames_is r (by omega) ht
  refine hd.bind ?_
  refine (implEnd_is r (by omega) ht hsm).bind ?_
  refine ho.bind ?_
  have hkl : (keepH r (hopsL r)).length ≤ 60 := by
    unfold keepH; split
    · exact Nat.le_trans (List.length_filter_le _ _) hr
    · simp
  have hks : ∀ x ∈ keepH r (hopsL r), x ∈ r := by
    intro x hx; unfold keepH at hx; split at hx
    · exact (List.mem_filter.1 hx).1
    · simp at hx
  have tail : Ev (fun k => (impl_EndToEnd.f k (keepH r (hopsL r))).bind fun t374 => ((laws_sameFields.f k t374 (keepH r (hopsL r))).bind fun t377 => (if t377 = true then ((laws_heads.f k).bind fun t378 => (some t378)) else (some false)))) true := by
    have h1 := implEnd_is (keepH r (hopsL r)) (by omega) (by have := totF_le _ (fun x hx => hf x (hks x hx)); omega) (fun x hx => hsm x (hks x hx))
    rw [keepH_again] at h1
    refine h1.bind ?_
    refine (sameFields_is _ (by omega)).bind ?_
    simp only [if_true]
    exact heads_is.bind (Ev.now _)
  cases hk : fldsOk r
  · have e1 := o2 hk
    subst e1
    have e2 : keepH r (hopsL r) = [] := by unfold keepH; rw [if_neg (by simp [hk])]
    rw [e2] at tail ⊢
    refine Ev.step (f := fun k => laws_FnHops.j1 k r [] [] 0 0 false) (fun k => by simp [laws_FnHops.l0]) ?_
    refine Ev.step (fun k => ?_) tail
    simp only [laws_FnHops.j1]
    rw [if_neg (by simp), if_pos (by simp)]
  · have hlow : ∀ y ∈ o, lowS y = y := by
      intro y hy
      rcases (o3 hk y).1 hy with h | h
      · exact hop7_low y h
      · exact hopAdd_low _ y h
    have hos : ∀ y ∈ o, y.size ≤ 1048576 := by
      intro y hy
      rcases (o3 hk y).1 hy with h | h
      · exact hop7_small y h
      · obtain ⟨x, hx, rfl⟩ := List.mem_map.1 h
        rw [lowS_size]
        exact (hopSmall r).1 x (List.mem_filter.1 hx).1
    have hne : 0 < o.length := by
      have : hopC ∈ o := (o3 hk _).2 (.inl hopC_in)
      exact List.length_pos_of_mem this
    have hX : keepH r (hopsL r) = r.filter fun x => !(o.any fun y => sameB x.f0 y) := by
      unfold keepH
      rw [if_pos hk]
      congr 1
      funext x
      rw [any_hop o hlow]
      congr 1
      rw [Bool.eq_iff_iff, Go.Lib.containsS_iff, Go.Lib.containsS_iff, o3 hk]
      unfold hopsL
      rw [if_pos hk, hopMem, List.mem_append]
    exact hopsOut r (keepH r (hopsL r)) o (by omega) hsm hos o1 hne hX tail r [] rfl

end Go.Proofs.YtkkolioolgpljaaGreat.Pure
