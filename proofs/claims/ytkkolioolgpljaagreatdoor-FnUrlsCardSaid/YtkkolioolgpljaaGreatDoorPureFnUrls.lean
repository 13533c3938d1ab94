/- A URL comes back from its text and from its form in the index; the call returns true for every code of a draw. No condition. -/
import Derived.Test.YtkkolioolgpljaaGreatDoorGFnUrlsx23
import Derived.Laws.BitsLemmas
import Derived.Laws.Strings
import Derived.Lib.AtoiAll
import Derived.Lib.Index
import Derived.Lib.IndexAny
import Derived.Lib.IndexMore
import Derived.Lib.ItoaNum
import Derived.Lib.Join
import Derived.Lib.SplitLaws
import Derived.OpenShut
namespace Go.Proofs.YtkkolioolgpljaaGreatDoor.Pure
open Go.RowKit Go.Proofs.YtkkolioolgpljaaGreatDoor.GFnUrls Go.Proofs.YtkkolioolgpljaaGreatDoorW.PrintWords Go.Proofs.YtkkolioolgpljaaGreatDoorW.PrintLast Go.Proofs.YtkkolioolgpljaaGreatDoorW.PrintMore
set_option linter.unusedVariables false
set_option linter.unusedSimpArgs false

/-! #### Bytes -/
theorem toList_inj {a b : ByteArray} (h : a.toList = b.toList) : a = b := by
 rw [ByteArray.toList_eq, ByteArray.toList_eq] at h
 cases a; cases b; simp_all
theorem getD_mid {α : Type} (pre : List α) (x : α) (r : List α) (z : α) : (pre ++ x :: r).getD ((pre.length : Int).toNat) z = x := by simp [List.getD]
theorem wrap_id {a : Int} (h1 : -9223372036854775808 ≤ a) (h2 : a ≤ 9223372036854775807) : wrap64 a = a := by unfold wrap64; omega
theorem len_mid {α : Type} (pre : List α) (x : α) (r : List α) : (pre.length : Int) < ((pre ++ x :: r).length : Int) := by simp; omega
theorem app_mid {α : Type} (pre : List α) (x : α) (r : List α) : pre ++ x :: r = (pre ++ [x]) ++ r := by simp
theorem len_snoc {α : Type} (pre : List α) (x : α) : ((pre ++ [x]).length : Int) = (pre.length : Int) + 1 := by simp
theorem size_strOf (xs : List Int) : (strOfNums xs).size = xs.length := by
 show (strOfNums xs).data.size = _
 simp [strOfNums]
/-! #### Str -/
def mkB (l : List UInt8) : ByteArray := ⟨l.toArray⟩
def bl (s : ByteArray) : List UInt8 := s.data.toList
theorem mk_bl (s : ByteArray) : mkB (bl s) = s := by cases s; simp [mkB, bl]
theorem bl_mk (l : List UInt8) : bl (mkB l) = l := by simp [mkB, bl]
theorem size_mk (l : List UInt8) : (mkB l).size = l.length := by show (mkB l).data.size = _; simp [mkB]
theorem size_bl (s : ByteArray) : (bl s).length = s.size := by rw [bl, Array.length_toList]; rfl
theorem toList_bl (s : ByteArray) : s.toList = bl s := ByteArray.toList_eq s
theorem toList_mk (l : List UInt8) : (mkB l).toList = l := by rw [toList_bl, bl_mk]
theorem getB (l : List UInt8) (i : Nat) (h : i < (mkB l).size) : (mkB l)[i]'h = l[i]'(by rwa [size_mk] at h) := by
 show (mkB l).data[i]'h = _
 simp [mkB]
theorem bt_at_ (l : List UInt8) (i : Nat) (h : i < l.length) : bt (mkB l) (i : Int) = ((l[i]'h).toNat : Int) := by
 unfold bt
 rw [dif_pos (by rw [size_mk]; simpa using h), getB]
 simp
theorem bt_mid (pre : List UInt8) (b : UInt8) (r : List UInt8) : bt (mkB (pre ++ b :: r)) (pre.length : Int) = (b.toNat : Int) := by
 rw [bt_at_ _ _ (by simp)]
 simp
theorem extract_mk (l : List UInt8) (i j : Nat) : (mkB l).extract i j = mkB ((l.drop i).take (j - i)) := by
 apply toList_inj
 rw [toList_mk, toList_bl, bl, ByteArray.data_extract, Array.toList_extract]
 simp [mkB, List.extract]
theorem drop_mid (pre : List UInt8) (b : UInt8) (r : List UInt8) : (pre ++ b :: r).drop (pre.length + 1) = r := by
 rw [app_mid, List.drop_left' (by simp)]
theorem size_lt_mid (pre : List UInt8) (b : UInt8) (r : List UInt8) : (pre.length : Int) < ((mkB (pre ++ b :: r)).size : Int) := by rw [size_mk]; exact len_mid ..
theorem u8_lt (b : UInt8) : (b.toNat : Int) < 256 := by have := b.toNat_lt; omega
/-- 'for all bytes', as a loop over a string's places. -/
theorem all_loop (F : Nat → ByteArray → Int → Option Bool) (G : Nat → Int → Option Bool) (p : UInt8 → Bool) (hG : ∀ b : UInt8, Ev (fun k => G k b.toNat) (p b))
  (hF : ∀ k s i, F (k + 1) s i = if i < (s.size : Int) then (if 0 ≤ i then (G k (bt s i)).bind fun t => (if t = true then F k s (wrap64 (i + 1)) else some false) else none) else some true) :
  ∀ (r pre : List UInt8), (pre ++ r).length ≤ 9223372036854775806 → Ev (fun k => F k (mkB (pre ++ r)) pre.length) (r.all p)
 | [], pre, _ => Ev.step (f := fun _ => some true) (fun k => by rw [hF, size_mk]; simp) (Ev.now _)
 | b :: r, pre, hl => by
  have ih := all_loop F G p hG hF r (pre ++ [b]) (by rw [← app_mid]; exact hl)
  rw [← app_mid, len_snoc] at ih
  simp at hl
  refine Ev.step (f := fun k => (G k b.toNat).bind fun t => (if t = true then F k (mkB (pre ++ b :: r)) (pre.length + 1) else some false)) (fun k => ?_) ?_
  ·rw [hF, if_pos (size_lt_mid ..), if_pos (by omega), bt_mid, wrap_id (by omega) (by omega)]
  refine (hG b).bind ?_
  cases hp : p b
  ·simpa [List.all_cons, hp] using Ev.now false
  ·simpa [List.all_cons, hp] using ih
theorem all_ev (F : Nat → ByteArray → Int → Option Bool) (G : Nat → Int → Option Bool) (p : UInt8 → Bool) (hG : ∀ b : UInt8, Ev (fun k => G k b.toNat) (p b))
  (hF : ∀ k s i, F (k + 1) s i = if i < (s.size : Int) then (if 0 ≤ i then (G k (bt s i)).bind fun t => (if t = true then F k s (wrap64 (i + 1)) else some false) else none) else some true)
  (s : ByteArray) (hs : s.size ≤ 9223372036854775806) : Ev (fun k => F k s 0) ((bl s).all p) := by
 have := all_loop F G p hG hF (bl s) [] (by simpa [size_bl] using hs)
 simpa [mk_bl] using this
theorem Ev.const {α : Type} {x : Option α} {r : α} (h : x = some r) : Ev (fun _ => x) r := ⟨0, fun _ _ => h⟩
/-! #### Index -/
theorem index_bound : ∀ (l sub : List UInt8), Lib.index l sub = -1 ∨ (0 ≤ Lib.index l sub ∧ Lib.index l sub + sub.length ≤ l.length)
 | [], sub => by cases sub <;> simp [Lib.index]
 | b :: l, sub => by
  unfold Lib.index
  by_cases hp : sub.isPrefixOf (b :: l) = true
  ·have := (List.isPrefixOf_iff_prefix.1 hp).length_le
   rw [if_pos hp]; right; simp at this ⊢; omega
  ·rw [if_neg hp]
   rcases index_bound l sub with h | h
   ·left; simp [h]
   ·right
    have : (Lib.index l sub == -1) = false := by simp; omega
    rw [this]; simp; omega
/-! #### SplitL -/
/-- A text cut at each such byte. -/
def splitL (c : UInt8) : List UInt8 → List (List UInt8)
 | [] => [[]]
 | b :: r => if b = c then [] :: splitL c r else ((splitL c r).headD [] |> (b :: ·)) :: (splitL c r).tail
theorem splitL_ne (c : UInt8) : ∀ l, splitL c l ≠ []
 | [] => by simp [splitL]
 | b :: r => by unfold splitL; split <;> simp
theorem splitL_none (c : UInt8) : ∀ l : List UInt8, (∀ b ∈ l, b ≠ c) → splitL c l = [l]
 | [], _ => rfl
 | b :: r, h => by
  have ih := splitL_none c r (fun x hx => h x (List.mem_cons_of_mem _ hx))
  rw [splitL, if_neg (h b (by simp)), ih]; rfl
theorem splitL_hit (c : UInt8) : ∀ (mid r : List UInt8), (∀ b ∈ mid, b ≠ c) → splitL c (mid ++ c :: r) = mid :: splitL c r
 | [], r, _ => by simp [splitL]
 | b :: mid, r, h => by
  have ih := splitL_hit c mid r (fun x hx => h x (List.mem_cons_of_mem _ hx))
  rw [List.cons_append, splitL, if_neg (h b (by simp)), ih]; rfl
theorem split_dec (c : UInt8) : ∀ l : List UInt8, (∀ b ∈ l, b ≠ c) ∨ ∃ mid r, l = mid ++ c :: r ∧ ∀ b ∈ mid, b ≠ c
 | [] => .inl (by simp)
 | b :: r => by
  by_cases h : b = c
  ·subst h; exact .inr ⟨[], r, rfl, by simp⟩
  ·rcases split_dec c r with h1 | ⟨mid, r', rfl, h1⟩
   ·exact .inl (by intro x hx; rcases List.mem_cons.1 hx with rfl | hx; exact h; exact h1 x hx)
   ·exact .inr ⟨b :: mid, r', rfl, by intro x hx; rcases List.mem_cons.1 hx with rfl | hx; exact h; exact h1 x hx⟩
theorem index_mid (c : UInt8) : ∀ (mid r : List UInt8), (∀ b ∈ mid, b ≠ c) → Lib.index (mid ++ c :: r) [c] = (mid.length : Int)
 | [], r, _ => by simp [Lib.index]
 | b :: mid, r, h => by
  have ih := index_mid c mid r (fun x hx => h x (List.mem_cons_of_mem _ hx))
  have hc : (c == b) = false := by simpa using fun x => h b (by simp) x.symm
  simp only [List.cons_append, Lib.index, List.isPrefixOf, hc, Bool.false_and, Bool.false_eq_true, if_false, ih]
  rw [if_neg (by simp <;> omega)]; simp
theorem splitK_is (c : UInt8) : ∀ (n : Nat) (l : List UInt8), l.count c = n → Lib.splitK [c] 0 n l = splitL c l
 | 0, l, h => by
  have : ∀ b ∈ l, b ≠ c := fun b hb e => by subst e; exact (List.count_eq_zero.1 h) hb
  rw [splitL_none c l this]; rfl
 | n + 1, l, h => by
  rcases split_dec c l with h1 | ⟨mid, r, rfl, h1⟩
  ·have : l.count c = 0 := List.count_eq_zero.2 (fun hm => h1 c hm rfl)
   omega
  ·have hm : mid.count c = 0 := List.count_eq_zero.2 (fun hm => h1 c hm rfl)
   have hr : r.count c = n := by simp [List.count_append, hm] at h; exact h
   rw [Lib.splitK, index_mid c mid r h1, if_neg (by simp <;> omega), splitL_hit c mid r h1]
   simp only [Int.toNat_natCast, Nat.add_zero, List.length_singleton]
   rw [List.take_left' rfl, show (mid ++ c :: r).drop (mid.length + 1) = r from drop_mid mid c r, splitK_is c n r hr]
theorem map_bl_mk (X : List ByteArray) (Y : List (List UInt8)) (h : X.map (·.data.toList) = Y) : X = Y.map mkB := by
 rw [← h, List.map_map]
 have : (mkB ∘ fun x : ByteArray => x.data.toList) = id := by funext x; exact mk_bl x
 rw [this, List.map_id]
theorem stringsSplit_is (l : List UInt8) (c : UInt8) (h : l.length ≤ 1048576) : strings_Split.f (mkB l) (⟨#[c]⟩ : ByteArray) = some ((splitL c l).map mkB) := by
 unfold strings_Split.f
 rw [if_pos ⟨by rw [size_mk]; omega, Nat.le_refl _⟩]
 congr 1
 apply map_bl_mk
 rw [Lib.splitB_data]
 have e1 : (⟨#[c]⟩ : ByteArray).data.toList = [c] := rfl
 have e2 : (mkB l).data.toList = l := bl_mk l
 show Lib.splitK _ 0 (Lib.count (mkB l).data.toList (⟨#[c]⟩ : ByteArray).data.toList) _ = _
 rw [e1, e2, Lib.count_one]
 exact splitK_is c _ l rfl
/-! #### Mids -/
theorem take_mid (pre m suf : List UInt8) : ((pre ++ (m ++ suf)).drop pre.length).take (pre.length + m.length - pre.length) = m := by simp
theorem bt_mid2 (pre m : List UInt8) (b : UInt8) (suf : List UInt8) (i : Int) (hi : i = (pre.length : Int) + (m.length : Int)) : bt (mkB (pre ++ (m ++ b :: suf))) i = (b.toNat : Int) := by
 have := bt_mid (pre ++ m) b suf
 rw [List.append_assoc] at this
 rw [hi, ← this]; simp
theorem u8_nat (b c : UInt8) : (b.toNat : Int) = (c.toNat : Int) ↔ b = c := by rw [← UInt8.toNat_inj]; omega
/-! #### Split7 -/
theorem spec7split_go (c : UInt8) : ∀ (r mid done : List UInt8) (acc : List ByteArray), (∀ b ∈ mid, b ≠ c) → (done ++ (mid ++ r)).length ≤ 1048576 → acc.length ≤ done.length →
  Ev (fun k => spec_l7split.l0 k (mkB (done ++ (mid ++ r))) (c.toNat : Int) acc (done.length : Int) ((done.length : Int) + (mid.length : Int))) (acc ++ (splitL c (mid ++ r)).map mkB)
 | [], mid, done, acc, hm, hl, ha => by
  simp only [List.append_nil] at hl ⊢
  have hl2 := hl
  simp at hl2
  rw [splitL_none c mid hm]
  have hx : (mkB (done ++ mid)).extract (done.length : Int).toNat ((done.length : Int) + (mid.length : Int)).toNat = mkB mid := by
   have := take_mid done mid []
   rw [List.append_nil] at this
   rw [extract_mk, Int.toNat_natCast, show ((done.length : Int) + (mid.length : Int)).toNat = done.length + mid.length by omega, this]
  have hw : wrap64 ((done.length : Int) + (mid.length : Int) + 1) = (done.length : Int) + (mid.length : Int) + 1 := wrap_id (by omega) (by omega)
  refine Ev.step (f := fun k => spec_l7split.l0 k (mkB (done ++ mid)) (c.toNat : Int) (acc ++ [mkB mid]) ((done.length : Int) + (mid.length : Int) + 1) ((done.length : Int) + (mid.length : Int) + 1)) (fun k => ?_) ?_
  ·simp only [spec_l7split.l0]
   rw [if_pos (by rw [size_mk]; simp), if_pos (by rw [size_mk]; simp), if_pos (by omega), if_pos (by omega), if_pos (by omega), hx, hw]
  ·refine Ev.step (f := fun _ => some (acc ++ [mkB mid])) (fun k => ?_) (Ev.now _)
   simp only [spec_l7split.l0]
   rw [if_neg (by rw [size_mk]; simp; omega)]
 | b :: r, mid, done, acc, hm, hl, ha => by
  have hl2 := hl
  simp at hl2
  have hw : wrap64 ((done.length : Int) + (mid.length : Int) + 1) = (done.length : Int) + (mid.length : Int) + 1 := wrap_id (by omega) (by omega)
  have hle : (done.length : Int) + (mid.length : Int) ≤ ((mkB (done ++ (mid ++ b :: r))).size : Int) := by rw [size_mk]; simp; omega
  have hne : ¬ (done.length : Int) + (mid.length : Int) = ((mkB (done ++ (mid ++ b :: r))).size : Int) := by rw [size_mk]; simp; omega
  have hlt : (done.length : Int) + (mid.length : Int) < ((mkB (done ++ (mid ++ b :: r))).size : Int) := by rw [size_mk]; simp; omega
  have hb := bt_mid2 done mid b r _ rfl
  by_cases h : b = c
  ·subst h
   have ih := spec7split_go b r [] (done ++ mid ++ [b]) (acc ++ [mkB mid]) (by simp) (by simp; omega) (by simp; omega)
   have e : (done ++ mid ++ [b]) ++ ([] ++ r) = done ++ (mid ++ b :: r) := by simp
   have e2 : ((done ++ mid ++ [b]).length : Int) = (done.length : Int) + (mid.length : Int) + 1 := by simp; omega
   rw [e, e2] at ih
   simp only [List.nil_append, List.length_nil, Int.natCast_zero, Int.add_zero] at ih
   rw [splitL_hit b mid r hm, List.map_cons]
   have hx : (mkB (done ++ (mid ++ b :: r))).extract (done.length : Int).toNat ((done.length : Int) + (mid.length : Int)).toNat = mkB mid := by
    rw [extract_mk, Int.toNat_natCast, show ((done.length : Int) + (mid.length : Int)).toNat = done.length + mid.length by omega, take_mid]
   rw [show acc ++ mkB mid :: (splitL b r).map mkB = acc ++ [mkB mid] ++ (splitL b r).map mkB by simp]
   refine Ev.step (fun k => ?_) ih
   simp only [spec_l7split.l0]
   rw [if_pos hle, if_neg hne, if_pos (by omega), if_pos hlt, hb, if_pos rfl, if_pos (by omega), if_pos (by omega), if_pos (by omega), hx, hw]
  ·have ih := spec7split_go c r (mid ++ [b]) done acc (by intro x hx; rcases List.mem_append.1 hx with h' | h'; exact hm x h'; simp at h'; subst h'; exact h) (by simp; omega) ha
   have e : done ++ (mid ++ [b] ++ r) = done ++ (mid ++ b :: r) := by simp
   have e2 : (done.length : Int) + ((mid ++ [b]).length : Int) = (done.length : Int) + (mid.length : Int) + 1 := by simp; omega
   have e3 : mid ++ [b] ++ r = mid ++ b :: r := by simp
   rw [e, e2, e3] at ih
   refine Ev.step (fun k => ?_) ih
   simp only [spec_l7split.l0]
   rw [if_pos hle, if_neg hne, if_pos (by omega), if_pos hlt, hb, if_neg (fun e => h ((u8_nat b c).1 e)), hw]
theorem spec7split_is (c : UInt8) (l : List UInt8) (h : l.length ≤ 1048576) : Ev (fun k => spec_l7split.f k (mkB l) (c.toNat : Int)) ((splitL c l).map mkB) := by
 have := spec7split_go c l [] [] [] (by simp) (by simpa using h) (by simp)
 simpa [spec_l7split.f] using this
/-! #### TokB -/
def lowB (b : UInt8) : Bool := decide (97 ≤ b.toNat) && decide (b.toNat ≤ 122)
def uppB (b : UInt8) : Bool := decide (65 ≤ b.toNat) && decide (b.toNat ≤ 90)
def digB (b : UInt8) : Bool := decide (48 ≤ b.toNat) && decide (b.toNat ≤ 57)
theorem isDigit_is (b : UInt8) : impl_isDigit.f (b.toNat : Int) = some (digB b) := by
 unfold impl_isDigit.f digB
 by_cases h : 48 ≤ b.toNat
 ·rw [if_pos (by omega)]; congr 1; rw [Bool.eq_iff_iff]; simp [h]; omega
 ·rw [if_neg (by omega)]; simp [h]
theorem l1digit_is (b : UInt8) : spec_l1digit.f (b.toNat : Int) = some (digB b) := isDigit_is b
theorem has_go (c : Int) : ∀ (r pre : List UInt8), (pre ++ r).length ≤ 9223372036854775806 → Ev (fun k => spec_l1has.l0 k (mkB (pre ++ r)) c pre.length) (r.any fun x => decide ((x.toNat : Int) = c))
 | [], pre, hl => Ev.step (f := fun _ => some false) (fun k => by simp only [spec_l1has.l0]; rw [if_neg (by rw [size_mk]; simp)]) (Ev.now _)
 | b :: r, pre, hl => by
  have ih := has_go c r (pre ++ [b]) (by rw [← app_mid]; exact hl)
  rw [← app_mid, len_snoc] at ih
  simp at hl
  by_cases h : (b.toNat : Int) = c
  ·refine Ev.step (f := fun _ => some true) (fun k => ?_) (by simpa [h] using Ev.now true)
   simp only [spec_l1has.l0]
   rw [if_pos (size_lt_mid ..), if_pos (by omega), bt_mid, if_pos h]
  ·refine Ev.step (fun k => ?_) (by simpa [h] using ih)
   simp only [spec_l1has.l0]
   rw [if_pos (size_lt_mid ..), if_pos (by omega), bt_mid, if_neg h, wrap_id (by omega) (by omega)]
theorem has_is (set : List UInt8) (b : UInt8) (h : set.length ≤ 9223372036854775806) : Ev (fun k => spec_l1has.f k (mkB set) (b.toNat : Int)) (set.contains b) := by
 have := has_go (b.toNat : Int) set [] (by simpa using h)
 have e : (set.any fun x => decide ((x.toNat : Int) = (b.toNat : Int))) = set.contains b := by
  rw [← List.any_beq]
  congr 1
  funext x
  rw [Bool.eq_iff_iff]
  simp only [decide_eq_true_eq, beq_iff_eq]
  constructor
  ·intro h; exact (UInt8.toNat_inj.1 (by omega)).symm
  ·intro h; rw [h]
 rw [e] at this
 simpa [spec_l1has.f] using this
/-! #### HexRead -/
/-- What a hexadecimal digit is worth, -1 for another byte. -/
def hexV (b : UInt8) : Int := if digB b = true then (b.toNat : Int) - 48 else if 97 ≤ b.toNat ∧ b.toNat ≤ 102 then (b.toNat : Int) - 87 else if 65 ≤ b.toNat ∧ b.toNat ≤ 70 then (b.toNat : Int) - 55 else -1
def readHexL : List UInt8 → Int → Int × Bool
 | [], n => (n, true)
 | b :: r, n => if hexV b < 0 then (0, false) else readHexL r (16 * n + hexV b)
def hexBnd : Nat → Int
 | 0 => 268435456
 | m + 1 => hexBnd m / 16
theorem hexBnd_le : ∀ m, 0 ≤ hexBnd m ∧ hexBnd m ≤ 268435456
 | 0 => by simp [hexBnd]
 | m + 1 => by have := hexBnd_le m; unfold hexBnd; omega
theorem hexV_lt (b : UInt8) : hexV b < 16 := by
 unfold hexV digB
 by_cases h : 48 ≤ b.toNat ∧ b.toNat ≤ 57
 ·simp [h]; omega
 ·rw [if_neg (by simp; omega)]; split
  ·omega
  ·split <;> omega
theorem specHexLow (b : UInt8) : ∃ c : Int, spec_l1lower.f (b.toNat : Int) = some c ∧ 0 ≤ c ∧ c < 256 ∧ (65 ≤ b.toNat ∧ b.toNat ≤ 90 → c = (b.toNat : Int) + 32) ∧ (¬ (65 ≤ b.toNat ∧ b.toNat ≤ 90) → c = (b.toNat : Int)) := by
 have := u8_lt b
 unfold spec_l1lower.f
 by_cases h1 : 65 ≤ b.toNat
 ·rw [if_pos (by omega)]
  by_cases h2 : b.toNat ≤ 90
  ·rw [if_pos (by omega)]; exact ⟨_, rfl, by omega, by omega, fun _ => by omega, fun h => absurd ⟨h1, h2⟩ h⟩
  ·rw [if_neg (by omega)]; exact ⟨_, rfl, by omega, by omega, fun h => absurd h.2 h2, fun _ => rfl⟩
 ·rw [if_neg (by omega)]; exact ⟨_, rfl, by omega, by omega, fun h => absurd h.1 h1, fun _ => rfl⟩
theorem l1digit_at (c : Int) : spec_l1digit.f c = some (decide (48 ≤ c) && decide (c ≤ 57)) := by
 unfold spec_l1digit.f
 by_cases h : c ≥ 48
 ·rw [if_pos h, decide_eq_true (show 48 ≤ c from h)]; rfl
 ·rw [if_neg h, decide_eq_false (show ¬ 48 ≤ c from h)]; rfl
theorem specReadHex_go : ∀ (r pre : List UInt8) (n : Int), 0 ≤ n → n < hexBnd r.length → (pre ++ r).length ≤ 1000 → Ev (fun k => spec_ReadHex.l0 k (mkB (pre ++ r)) n pre.length) (readHexL r n)
 | [], pre, n, _, _, _ => Ev.step (f := fun _ => some (n, true)) (fun k => by simp only [spec_ReadHex.l0]; rw [if_neg (by rw [size_mk]; simp)]) (Ev.now _)
 | b :: r, pre, n, h0, h1, hl => by
  have hb := hexBnd_le r.length
  have hv := hexV_lt b
  have h1' : n < hexBnd r.length / 16 := h1
  simp at hl
  have ih := specReadHex_go r (pre ++ [b]) (16 * n + hexV b)
  rw [← app_mid, len_snoc] at ih
  have hw : wrap64 ((pre.length : Int) + 1) = (pre.length : Int) + 1 := wrap_id (by omega) (by omega)
  have hw0 : wrap64 (n * 16) = n * 16 := wrap_id (by omega) (by omega)
  obtain ⟨c, hc, c0, c1, c2, c3⟩ := specHexLow b
  have hcell : ∀ k, spec_ReadHex.l0 (k + 1) (mkB (pre ++ b :: r)) n pre.length = if hexV b < 0 then some (0, false) else spec_ReadHex.l0 k (mkB (pre ++ b :: r)) (16 * n + hexV b) ((pre.length : Int) + 1) := by
   intro k
   simp only [spec_ReadHex.l0]
   rw [if_pos (size_lt_mid ..), if_pos (by omega), bt_mid, hc]
   simp only [Option.bind_some, l1digit_at, hw, hw0]
   by_cases hd : 48 ≤ c ∧ c ≤ 57
   ·have hbd : 48 ≤ b.toNat ∧ b.toNat ≤ 57 := by
     by_cases hu : 65 ≤ b.toNat ∧ b.toNat ≤ 90
     ·have := c2 hu; omega
     ·have := c3 hu; omega
    have e := c3 (by omega)
    have hval : hexV b = c - 48 := by unfold hexV digB; rw [if_pos (by simp [hbd])]; omega
    rw [if_pos (by simp [hd]), if_neg (by omega), show (c - 48) % 256 = c - 48 by omega, wrap_id (by omega) (by omega), hval, show n * 16 + (c - 48) = 16 * n + (c - 48) by omega]
   ·rw [if_neg (by simp; omega)]
    have hnd : digB b = false := by
     unfold digB
     by_cases hu : 65 ≤ b.toNat ∧ b.toNat ≤ 90
     ·simp; omega
     ·have := c3 hu; simp; omega
    by_cases h97 : c ≥ 97
    ·rw [if_pos h97]
     by_cases h102 : c ≤ 102
     ·have hval : hexV b = c - 87 := by
       unfold hexV; rw [hnd, if_neg (by decide)]
       by_cases hu : 65 ≤ b.toNat ∧ b.toNat ≤ 90
       ·have := c2 hu; rw [if_neg (by omega), if_pos (by omega)]; omega
       ·have := c3 hu; rw [if_pos (by omega)]; omega
      rw [if_pos h102, if_neg (by omega), show (c - 97) % 256 = c - 97 by omega, wrap_id (a := n * 16 + (c - 97)) (by omega) (by omega), wrap_id (by omega) (by omega), hval, show n * 16 + (c - 97) + 10 = 16 * n + (c - 87) by omega]
     ·have hval : hexV b = -1 := by
       unfold hexV; rw [hnd, if_neg (by decide)]
       by_cases hu : 65 ≤ b.toNat ∧ b.toNat ≤ 90
       ·have := c2 hu; rw [if_neg (by omega), if_neg (by omega)]
       ·have := c3 hu; rw [if_neg (by omega), if_neg (by omega)]
      rw [if_neg h102, hval, if_pos (by decide)]
    ·have hval : hexV b = -1 := by
      unfold hexV; rw [hnd, if_neg (by decide)]
      by_cases hu : 65 ≤ b.toNat ∧ b.toNat ≤ 90
      ·have := c2 hu; omega
      ·have := c3 hu; rw [if_neg (by omega), if_neg (by omega)]
     rw [if_neg h97, hval, if_pos (by decide)]
  by_cases hneg : hexV b < 0
  ·refine Ev.step (f := fun _ => some (0, false)) (fun k => by rw [hcell, if_pos hneg]) (by simpa [readHexL, hneg] using Ev.now _)
  ·have er : readHexL (b :: r) n = readHexL r (16 * n + hexV b) := by simp [readHexL, hneg]
   rw [er]
   exact Ev.step (fun k => by rw [hcell, if_neg hneg]) (ih (by omega) (by omega) (by simp; omega))
def readHexT (l : List UInt8) : Int × Bool := if l.length = 0 ∨ 7 < l.length then (0, false) else readHexL l 0
theorem hexBnd_pos (m : Nat) (h : m ≤ 7) : 0 < hexBnd m := by
 have : m = 0 ∨ m = 1 ∨ m = 2 ∨ m = 3 ∨ m = 4 ∨ m = 5 ∨ m = 6 ∨ m = 7 := by omega
 rcases this with rfl | rfl | rfl | rfl | rfl | rfl | rfl | rfl <;> decide
theorem specReadHex_is (l : List UInt8) : Ev (fun k => spec_ReadHex.f k (mkB l)) (readHexT l) := by
 have hj : ∀ l : List UInt8, Ev (fun k => spec_ReadHex.j0 k (mkB l) true) ((0 : Int), false) := fun l => Ev.step (f := fun _ => some (0, false)) (fun k => by simp only [spec_ReadHex.j0, if_true]) (Ev.now _)
 unfold spec_ReadHex.f readHexT
 by_cases h0 : l.length = 0
 ·simp only [if_pos (show ((mkB l).size : Int) = 0 by rw [size_mk]; omega), if_pos (show l.length = 0 ∨ 7 < l.length from .inl h0)]
  exact hj l
 ·simp only [if_neg (show ¬ ((mkB l).size : Int) = 0 by rw [size_mk]; omega)]
  by_cases h7 : 7 < l.length
  ·simp only [decide_eq_true (show ((mkB l).size : Int) > 7 by rw [size_mk]; omega), if_pos (show l.length = 0 ∨ 7 < l.length from .inr h7)]
   exact hj l
  ·have hg := specReadHex_go l [] 0 (by omega) (hexBnd_pos _ (by omega)) (by simp; omega)
   simp only [decide_eq_false (show ¬ ((mkB l).size : Int) > 7 by rw [size_mk]; omega), if_neg (show ¬ (l.length = 0 ∨ 7 < l.length) by omega)]
   refine Ev.step (f := fun k => spec_ReadHex.l0 k (mkB l) 0 0) (fun k => by simp only [spec_ReadHex.j0, Bool.false_eq_true, if_false]) ?_
   simpa using hg
theorem hexOf_is (b : UInt8) : Ev (fun k => impl_hexOf.f k (b.toNat : Int)) (hexV b) := by
 have hlt := u8_lt b
 unfold impl_hexOf.f
 rw [isDigit_is]
 simp only [Option.bind_some]
 unfold hexV
 cases hd : digB b
 ·have hnd : ¬ (48 ≤ b.toNat ∧ b.toNat ≤ 57) := by intro h; rw [digB] at hd; simp [h] at hd
  simp only [Bool.false_eq_true, if_false]
  have hf : Ev (fun k => impl_hexOf.j0 k (b.toNat : Int) false) (if 65 ≤ b.toNat ∧ b.toNat ≤ 70 then (b.toNat : Int) - 55 else -1) := by
   refine Ev.step (f := fun _ => some (if 65 ≤ b.toNat ∧ b.toNat ≤ 70 then (b.toNat : Int) - 55 else -1)) (fun k => ?_) (Ev.now _)
   simp only [impl_hexOf.j0, Bool.false_eq_true, if_false]
   by_cases h1 : 65 ≤ b.toNat
   ·rw [if_pos (by omega)]
    by_cases h2 : b.toNat ≤ 70
    ·rw [if_pos (by omega), if_pos ⟨h1, h2⟩]; congr 1; omega
    ·rw [if_neg (by omega), if_neg (by omega)]
   ·rw [if_neg (by omega), if_neg (by omega)]
  by_cases h1 : 97 ≤ b.toNat
  ·simp only [if_pos (show (b.toNat : Int) ≥ 97 by omega)]
   by_cases h2 : b.toNat ≤ 102
   ·simp only [decide_eq_true (show (b.toNat : Int) ≤ 102 by omega), if_pos (show 97 ≤ b.toNat ∧ b.toNat ≤ 102 from ⟨h1, h2⟩)]
    refine Ev.step (f := fun _ => some ((b.toNat : Int) - 87)) (fun k => ?_) (Ev.now _)
    simp only [impl_hexOf.j0, if_true]; congr 1; omega
   ·simp only [decide_eq_false (show ¬ (b.toNat : Int) ≤ 102 by omega), if_neg (show ¬ (97 ≤ b.toNat ∧ b.toNat ≤ 102) by omega)]
    exact hf
  ·simp only [if_neg (show ¬ (b.toNat : Int) ≥ 97 by omega), if_neg (show ¬ (97 ≤ b.toNat ∧ b.toNat ≤ 102) by omega)]
   exact hf
 ·have hdd : 48 ≤ b.toNat ∧ b.toNat ≤ 57 := by simpa [digB] using hd
  simp only [if_true]
  rw [show ((b.toNat : Int) - 48) % 256 = (b.toNat : Int) - 48 by omega]
  exact Ev.now _
/-! #### HostS -/
-- the reference's host
def hostB (b : UInt8) : Bool := lowB b || digB b || decide (b = 45)
def hostP (p : List UInt8) : Bool := !p.isEmpty && p.all hostB
def hostL (l : List UInt8) : Bool := decide (1 ≤ l.length) && decide (l.length ≤ 60) && (splitL 46 l).all hostP
theorem u8_45 (b : UInt8) : (b.toNat : Int) = 45 ↔ b = 45 := by rw [← UInt8.toNat_inj]; show _ ↔ b.toNat = 45; omega
theorem rdOf_mid (pre : List (List UInt8)) (x : List UInt8) (r : List (List UInt8)) : rdOf ByteArray.empty ((pre ++ x :: r).map mkB) (pre.length : Int) = mkB x := by
 rw [List.map_append, List.map_cons, rdOf, show (pre.length : Int) = ((pre.map mkB).length : Int) by simp, getD_mid]
theorem specHost_in (P : List ByteArray) (i : Int) (x : List UInt8) (hx : rdOf ByteArray.empty P i = mkB x) (hi : 0 ≤ i) (hi2 : i < (P.length : Int)) (hP : P.length ≤ 1000000) (hl : x.length ≤ 1000000) (res : Bool) (hres : Ev (fun k => spec_l7host.l0 k P (i + 1)) res) :
  ∀ (r pre : List UInt8), x = pre ++ r → Ev (fun k => spec_l7host.l1 k P i (pre.length : Int)) (r.all hostB && res)
 | [], pre, hp => by
  refine Ev.step (fun k => ?_) (by simpa using hres)
  simp only [spec_l7host.l1]
  rw [if_pos hi, if_pos hi2, hx, if_neg (by rw [size_mk, hp]; simp), wrap_id (by omega) (by omega)]
 | b :: r, pre, hp => by
  have ih := specHost_in P i x hx hi hi2 hP hl res hres r (pre ++ [b]) (by rw [hp]; simp)
  rw [len_snoc] at ih
  have hxl : x.length = pre.length + (r.length + 1) := by rw [hp]; simp
  have hb : bt (mkB x) (pre.length : Int) = (b.toNat : Int) := by rw [hp]; exact bt_mid pre b r
  have hcell : ∀ k, spec_l7host.l1 (k + 1) P i (pre.length : Int) = if hostB b = true then spec_l7host.l1 k P i ((pre.length : Int) + 1) else some false := by
   intro k
   simp only [spec_l7host.l1]
   rw [if_pos hi, if_pos hi2, hx, if_pos (by rw [size_mk]; omega), if_pos (by omega), hb, l1digit_is, wrap_id (by omega) (by omega)]
   simp only [Option.bind_some]
   unfold hostB
   by_cases h1 : 97 ≤ b.toNat
   ·rw [if_pos (by omega)]
    by_cases h2 : b.toNat ≤ 122
    ·rw [if_pos (by omega), if_pos (by simp [lowB, h1, h2])]
    ·have e : lowB b = false := by simp [lowB, h2]
     rw [if_neg (by omega), e]
     cases digB b
     ·by_cases h45 : b = 45
      ·rw [if_neg Bool.false_ne_true, if_pos ((u8_45 b).2 h45), if_pos (by simp [h45])]
      ·rw [if_neg Bool.false_ne_true, if_neg (fun h => h45 ((u8_45 b).1 h)), if_neg (by simp [h45])]
     ·rw [if_pos rfl, if_pos (by simp)]
   ·have e : lowB b = false := by simp [lowB, h1]
    rw [if_neg (by omega), e]
    cases digB b
    ·by_cases h45 : b = 45
     ·rw [if_neg Bool.false_ne_true, if_pos ((u8_45 b).2 h45), if_pos (by simp [h45])]
     ·rw [if_neg Bool.false_ne_true, if_neg (fun h => h45 ((u8_45 b).1 h)), if_neg (by simp [h45])]
    ·rw [if_pos rfl, if_pos (by simp)]
  cases hh : hostB b
  ·exact Ev.step (f := fun _ => some false) (fun k => by rw [hcell, if_neg (by rw [hh]; decide)]) (by simpa [hh] using Ev.now false)
  ·exact Ev.step (fun k => by rw [hcell, if_pos hh]) (by simpa [hh] using ih)
theorem specHost_go (S : List (List UInt8)) (hS : S.length ≤ 1000000) (hx : ∀ x ∈ S, x.length ≤ 1000000) : ∀ (r pre : List (List UInt8)), S = pre ++ r → Ev (fun k => spec_l7host.l0 k (S.map mkB) (pre.length : Int)) (r.all hostP)
 | [], pre, hp => Ev.step (f := fun _ => some true) (fun k => by simp only [spec_l7host.l0]; rw [if_neg (by rw [hp]; simp)]) (Ev.now _)
 | x :: r, pre, hp => by
  have ih := specHost_go S hS hx r (pre ++ [x]) (by rw [hp]; simp)
  rw [len_snoc] at ih
  have hlen : S.length = pre.length + (r.length + 1) := by rw [hp]; simp
  have hrd : rdOf ByteArray.empty (S.map mkB) (pre.length : Int) = mkB x := by rw [hp]; exact rdOf_mid pre x r
  have hlt : (pre.length : Int) < ((S.map mkB).length : Int) := by simp; omega
  by_cases he : x = []
  ·refine Ev.step (f := fun _ => some false) (fun k => ?_) (by simpa [hostP, he] using Ev.now false)
   simp only [spec_l7host.l0]
   rw [if_pos hlt, if_pos (by omega), hrd, toList_mk, if_pos he]
  ·have hin := specHost_in (S.map mkB) (pre.length : Int) x hrd (by omega) hlt (by simpa using hS) (hx x (by rw [hp]; simp)) _ ih x [] rfl
   refine Ev.step (f := fun k => spec_l7host.l1 k (S.map mkB) (pre.length : Int) 0) (fun k => ?_) ?_
   ·simp only [spec_l7host.l0]
    rw [if_pos hlt, if_pos (by omega), hrd, toList_mk, if_neg he]
   ·have hne : x.isEmpty = false := by cases x with | nil => exact absurd rfl he | cons _ _ => rfl
    simpa [hostP, hne] using hin
theorem splitL_len (c : UInt8) : ∀ l : List UInt8, (splitL c l).length ≤ l.length + 1 ∧ ∀ x ∈ splitL c l, x.length ≤ l.length
 | [] => by simp [splitL]
 | b :: r => by
  have ih := splitL_len c r
  unfold splitL
  by_cases h : b = c
  ·rw [if_pos h]
   refine ⟨by simp; omega, fun x hx => ?_⟩
   rcases List.mem_cons.1 hx with rfl | hx
   ·simp
   ·have := ih.2 x hx; simp; omega
  ·rw [if_neg h]
   cases hs : splitL c r with
   | nil => exact absurd hs (splitL_ne c r)
   | cons a t =>
    rw [hs] at ih
    refine ⟨by simp at ih ⊢; omega, fun x hx => ?_⟩
    rcases List.mem_cons.1 hx with rfl | hx
    ·have := ih.2 a (by simp); simp; omega
    ·have := ih.2 x (List.mem_cons_of_mem _ hx); simp; omega
theorem specHost_is (s : ByteArray) (hs : s.size ≤ 1048576) : Ev (fun k => spec_l7host.f k s) (hostL (bl s)) := by
 have hj : Ev (fun k => spec_l7host.j0 k s true) false := Ev.step (f := fun _ => some false) (fun k => by simp only [spec_l7host.j0, if_true]) (Ev.now _)
 obtain ⟨l, rfl⟩ : ∃ l, s = mkB l := ⟨bl s, (mk_bl s).symm⟩
 rw [bl_mk]
 rw [size_mk] at hs
 unfold spec_l7host.f hostL
 rw [size_mk]
 by_cases h0 : l.length = 0
 ·simp only [if_pos (show (l.length : Int) = 0 by omega), decide_eq_false (show ¬ 1 ≤ l.length by omega), Bool.false_and]; exact hj
 ·simp only [if_neg (show ¬ (l.length : Int) = 0 by omega), decide_eq_true (show 1 ≤ l.length by omega), Bool.true_and]
  by_cases h60 : l.length ≤ 60
  ·simp only [decide_eq_false (show ¬ (l.length : Int) > 60 by omega), decide_eq_true h60, Bool.true_and]
   have hsl := splitL_len 46 l
   have := specHost_go (splitL 46 l) (by omega) (fun x hx => by have := hsl.2 x hx; omega) (splitL 46 l) [] rfl
   refine Ev.step (f := fun k => (spec_l7split.f k (mkB l) 46).bind fun t => spec_l7host.l0 k t 0) (fun k => by simp only [spec_l7host.j0, Bool.false_eq_true, if_false]) ?_
   exact (spec7split_is 46 l hs).bind this
  ·simp only [decide_eq_true (show (l.length : Int) > 60 by omega), decide_eq_false h60, Bool.false_and]; exact hj
theorem split_all (c : UInt8) (p q : UInt8 → Bool) (hq : ∀ b, q b = (p b || decide (b = c))) : ∀ l : List UInt8, (splitL c l).all (fun x => x.all p) = true ↔ l.all q = true
 | [] => by simp [splitL]
 | b :: r => by
  have ih := split_all c p q hq r
  have hb := hq b
  unfold splitL
  by_cases h : b = c
  ·rw [if_pos h, List.all_cons, List.all_nil, Bool.true_and, ih, List.all_cons, hb]; simp [h]
  ·rw [if_neg h]
   cases hs : splitL c r with
   | nil => exact absurd hs (splitL_ne c r)
   | cons a t =>
    rw [hs] at ih
    simp only [List.headD_cons, List.tail_cons, List.all_cons, Bool.and_eq_true] at ih ⊢
    rw [hb, decide_eq_false h, Bool.or_false, ← ih]
    constructor
    ·rintro ⟨⟨h1, h2⟩, h3⟩; exact ⟨h1, h2, h3⟩
    ·rintro ⟨h1, h2, h3⟩; exact ⟨⟨h1, h2⟩, h3⟩
theorem hostL_is (l : List UInt8) : hostL l = (decide (1 ≤ l.length) && decide (l.length ≤ 60) && l.all (fun b => hostB b || decide (b = 46)) && !(splitL 46 l).contains []) := by
 unfold hostL
 rw [Bool.and_assoc (decide _ && decide _)]
 congr 1
 rw [Bool.eq_iff_iff, Bool.and_eq_true, ← split_all 46 hostB (fun b => hostB b || decide (b = 46)) (fun _ => rfl) l]
 simp only [List.all_eq_true, hostP, Bool.and_eq_true, Bool.not_eq_true', List.contains_eq_mem, decide_eq_false_iff_not]
 constructor
 ·intro h
  exact ⟨fun x hx => (h x hx).2, fun hm => by have := (h [] hm).1; simp at this⟩
 ·rintro ⟨h1, h2⟩ x hx
  refine ⟨?_, h1 x hx⟩
  cases x with
  | nil => exact absurd hx h2
  | cons _ _ => rfl
/-! #### Dec -/
theorem strOf_digit (n : Nat) (h : n < 10) : strOfNums [(wrap64 (48 + (n : Int))) % 256] = mkB [UInt8.ofNat (48 + n)] := by
 have e : (wrap64 (48 + (n : Int))) % 256 = ((48 + n : Nat) : Int) := by rw [wrap_id (by omega) (by omega)]; omega
 rw [e]
 show (⟨(([((48 + n : Nat) : Int)] : List Int).map fun n => UInt8.ofNat n.toNat).toArray⟩ : ByteArray) = _
 rw [List.map_cons, List.map_nil, Int.toNat_natCast]
 rfl
theorem mk_append (a b : List UInt8) : mkB a ++ mkB b = mkB (a ++ b) := by
 cases h : mkB a ++ mkB b with | mk d =>
 have h3 : (mkB a ++ mkB b).data.toList = a ++ b := by simp [mkB]
 rw [h] at h3
 simp only [mkB, ByteArray.mk.injEq]
 apply Array.toList_inj.1
 rw [h3]
theorem nDigits_le15 (n : Nat) (h : n ≤ 999999999999999) : Lib.nDigits n ≤ 15 := by
 by_cases h1 : Lib.nDigits n ≤ 15
 ·exact h1
 ·have hk : ∀ k u : Nat, u < 10 ^ (k + 1) → Lib.nDigits u ≤ k + 1 := by
   intro k
   induction k with
   | zero => intro u hu; rw [Lib.nDigits_small (by simpa using hu)]; omega
   | succ k ih =>
    intro u hu
    by_cases h10 : u < 10
    ·rw [Lib.nDigits_small h10]; omega
    ·rw [Lib.nDigits_big h10]
     have := ih (u / 10) (by rw [Nat.pow_succ] at hu; omega)
     omega
  exact hk 14 n (by omega)
theorem specDec_is (n : Nat) (h : n ≤ 999999999999999) : Ev (fun k => spec_DecText.f k (n : Int)) (mkB (Lib.decDigits n)) := by
 induction n using Nat.strongRecOn with
 | _ n ih =>
  have hd : decide ((n : Int) > 999999999999999) = false := decide_eq_false (by omega)
  refine Ev.step (f := fun k => spec_DecText.j0 k (n : Int) false) (fun k => by simp only [spec_DecText.f]; rw [if_neg (by omega), hd]) ?_
  by_cases h10 : n < 10
  ·refine Ev.step (f := fun _ => some (mkB (Lib.decDigits n))) (fun k => ?_) (Ev.now _)
   simp only [spec_DecText.j0, Bool.false_eq_true, if_false]
   rw [if_pos (by omega), strOf_digit n h10, Lib.decDigits, dif_pos h10]
  ·have ih' := ih (n / 10) (by omega) (by omega)
   have hlen : (mkB (Lib.decDigits (n / 10))).size ≤ 15 := by rw [size_mk, Lib.decDigits_length]; exact nDigits_le15 _ (by omega)
   have e1 : wrap64 (Int.tdiv (n : Int) 10) = ((n / 10 : Nat) : Int) := by
    rw [Int.tdiv_eq_ediv_of_nonneg (by omega), wrap_id (by omega) (by omega)]; rfl
   have e2 : Int.tmod (n : Int) 10 = ((n % 10 : Nat) : Int) := by rw [Int.tmod_eq_emod_of_nonneg (by omega)]; rfl
   refine Ev.step (f := fun k => (spec_DecText.f k ((n / 10 : Nat) : Int)).bind fun t => if t.size + (mkB [UInt8.ofNat (48 + n % 10)]).size ≤ 9223372036854775807 then some (t ++ mkB [UInt8.ofNat (48 + n % 10)]) else none) (fun k => ?_) ?_
   ·simp only [spec_DecText.j0, Bool.false_eq_true, if_false]
    rw [if_neg (by omega), e1, e2]
    simp only [Option.bind_some, strOf_digit (n % 10) (show n % 10 < 10 by omega)]
   ·refine ih'.bind ?_
    have hs : (mkB [UInt8.ofNat (48 + n % 10)]).size = 1 := by rw [size_mk]; rfl
    have hdd : Lib.decDigits n = Lib.decDigits (n / 10) ++ [UInt8.ofNat (48 + n % 10)] := by rw [Lib.decDigits, dif_neg h10]
    rw [if_pos (by omega), mk_append, hdd]
    exact Ev.now _
theorem itoa_is (n : Nat) (h : n ≤ 999999999999999) : strconv_Itoa.f (n : Int) = some (mkB (Lib.decDigits n)) := by
 unfold strconv_Itoa.f
 rw [if_pos ⟨by omega, by omega⟩]
 unfold Lib.itoa
 rw [if_neg (by omega)]
 rfl
/-! #### UrlT -/
-- a URL's text
def portL (p : Nat) : List UInt8 := if p = 80 then [] else 58 :: Lib.decDigits p
def queryL (q : List UInt8) (h : Bool) : List UInt8 := if h = true then 63 :: q else []
def httpB : List UInt8 := [104, 116, 116, 112, 58, 47, 47]
def urlL (h : List UInt8) (p : Nat) (path q : List UInt8) (hq : Bool) : List UInt8 := httpB ++ h ++ portL p ++ path ++ queryL q hq
theorem decDigits_short (p : Nat) (h : p ≤ 999999999999999) : (Lib.decDigits p).length ≤ 15 := by rw [Lib.decDigits_length]; exact nDigits_le15 _ h
theorem portL_len (p : Nat) (h : p ≤ 999999999999999) : (portL p).length ≤ 16 := by
 have := decDigits_short p h
 unfold portL; split
 ·simp
 ·simp; omega
theorem queryL_len (q : List UInt8) (h : Bool) : (queryL q h).length ≤ q.length + 1 := by unfold queryL; split <;> simp
theorem specPort_is (a : ByteArray) (p : Nat) (b c : ByteArray) (d : Bool) (h : p ≤ 999999999999999) : Ev (fun k => spec_l7port.f k a (p : Int) b c d) (mkB (portL p)) := by
 unfold spec_l7port.f portL
 by_cases h80 : p = 80
 ·simp only [if_pos (show (p : Int) = 80 by omega), if_pos h80]; exact Ev.now _
 ·simp only [if_neg (show ¬ (p : Int) = 80 by omega), if_neg h80]
  refine (specDec_is p h).bind ?_
  have := decDigits_short p h
  rw [if_pos (by rw [size_mk]; omega), show (⟨#[58]⟩ : ByteArray) = mkB [58] from rfl, mk_append]
  exact Ev.now _
theorem implPort_is (a : ByteArray) (p : Nat) (b c : ByteArray) (d : Bool) (h : p ≤ 999999999999999) : impl_portText.f a (p : Int) b c d = some (mkB (portL p)) := by
 unfold impl_portText.f portL
 by_cases h80 : p = 80
 ·rw [if_pos (show (p : Int) = 80 by omega), if_pos h80]; rfl
 ·have := decDigits_short p h
  rw [if_neg (show ¬ (p : Int) = 80 by omega), if_neg h80, itoa_is p h, Option.bind_some, if_pos (by rw [size_mk]; omega), show (⟨#[58]⟩ : ByteArray) = mkB [58] from rfl, mk_append]
  rfl
theorem specQuery_is (a : ByteArray) (p : Int) (b : ByteArray) (c : List UInt8) (d : Bool) (h : c.length ≤ 1000000000) : spec_l7query.f a p b (mkB c) d = some (mkB (queryL c d)) := by
 unfold spec_l7query.f queryL
 cases d
 ·rfl
 ·rw [if_pos rfl, if_pos rfl, if_pos (by rw [size_mk]; omega), show (⟨#[63]⟩ : ByteArray) = mkB [63] from rfl, mk_append]; rfl
theorem implPath_is (a : ByteArray) (p : Int) (b c : List UInt8) (d : Bool) (hb : b.length ≤ 1000000000) (h : c.length ≤ 1000000000) : impl_pathText.f a p (mkB b) (mkB c) d = some (mkB (b ++ queryL c d)) := by
 unfold impl_pathText.f queryL
 cases d
 ·simp
 ·rw [if_pos rfl, if_pos rfl, show (⟨#[63]⟩ : ByteArray) = mkB [63] from rfl, mk_append, if_pos (by rw [size_mk]; omega), if_pos (by rw [size_mk, size_mk]; simp; omega), mk_append]
  simp
theorem specText_is (a : List UInt8) (p : Nat) (b c : List UInt8) (d : Bool) (h : p ≤ 999999999999999) (ha : a.length ≤ 1000000000) (hb : b.length ≤ 1000000000) (hc : c.length ≤ 1000000000) : Ev (fun k => spec_l7text.f k (mkB a) (p : Int) (mkB b) (mkB c) d) (mkB (urlL a p b c d)) := by
 have h1 := portL_len p h
 have h2 := queryL_len c d
 have e0 : (⟨#[104, 116, 116, 112, 58, 47, 47]⟩ : ByteArray) = mkB httpB := rfl
 have e1 : httpB.length = 7 := rfl
 unfold spec_l7text.f urlL
 simp only [e0, mk_append, size_mk]
 simp only [if_pos (show 7 + a.length ≤ 9223372036854775807 by omega)]
 refine (specPort_is _ p _ _ d h).bind ?_
 rw [mk_append, size_mk]
 rw [if_pos (by rw [List.length_append]; omega), if_pos (by rw [size_mk]; simp only [List.length_append]; omega), specQuery_is _ _ _ _ _ hc, Option.bind_some, mk_append, size_mk, size_mk, if_pos (by simp only [List.length_append]; omega), mk_append]
 exact Ev.now _
theorem implText_is (a : List UInt8) (p : Nat) (b c : List UInt8) (d : Bool) (h : p ≤ 999999999999999) (ha : a.length ≤ 1000000000) (hb : b.length ≤ 1000000000) (hc : c.length ≤ 1000000000) : impl_urlText.f (mkB a) (p : Int) (mkB b) (mkB c) d = some (mkB (urlL a p b c d)) := by
 have h1 := portL_len p h
 have h2 := queryL_len c d
 have e0 : (⟨#[104, 116, 116, 112, 58, 47, 47]⟩ : ByteArray) = mkB httpB := rfl
 have e1 : httpB.length = 7 := rfl
 unfold impl_urlText.f urlL
 rw [e0, mk_append, if_pos (by rw [size_mk]; omega), implPort_is _ p _ _ d h, Option.bind_some, if_pos (by rw [size_mk, size_mk]; simp only [List.length_append]; omega), implPath_is _ _ _ _ _ hb hc, Option.bind_some, mk_append, if_pos (by rw [size_mk, size_mk]; simp only [List.length_append]; omega), mk_append]
 simp only [List.append_assoc]
/-! #### Percent -/
def freeB (b : UInt8) : Bool := lowB b || uppB b || digB b || [45, 46, 95, 126].contains b
theorem implFree_is (b : UInt8) : impl_isFree.f (b.toNat : Int) = some (freeB b) := by
 have key : ∀ n : Fin 256, impl_isFree.f ((UInt8.ofNat n.val).toNat : Int) = some (freeB (UInt8.ofNat n.val)) := by decide +kernel
 have := key ⟨b.toNat, b.toNat_lt⟩
 simpa using this
theorem spec7free_is (b : UInt8) : Ev (fun k => spec_l7free.f k (b.toNat : Int)) (freeB b) := by
 have hh : Ev (fun k => spec_l1has.f k (⟨#[45, 46, 95, 126]⟩ : ByteArray) (b.toNat : Int)) ([45, 46, 95, 126].contains b) := has_is [45, 46, 95, 126] b (by decide)
 have rest : Ev (fun k => if digB b = true then some true else (spec_l1has.f k (⟨#[45, 46, 95, 126]⟩ : ByteArray) (b.toNat : Int)).bind fun t => some t) (digB b || [45, 46, 95, 126].contains b) := by
  cases hd : digB b
  ·simpa using hh.bind (f := fun _ (t : Bool) => some t) (Ev.now _)
  ·simpa using Ev.now true
 obtain ⟨c, hc, c0, c1, c2, c3⟩ := specHexLow b
 unfold spec_l7free.f
 simp only [l1digit_is, hc, Option.bind_some]
 unfold freeB
 by_cases hU : 65 ≤ b.toNat ∧ b.toNat ≤ 90
 ·have e := c2 hU
  have e1 : uppB b = true := by simp [uppB, hU]
  simp only [if_pos (show c ≥ 97 by omega), if_pos (show c ≤ 122 by omega)]
  simpa [e1] using Ev.now true
 ·have e := c3 hU
  have e1 : uppB b = false := by simp [uppB]; omega
  by_cases hL : 97 ≤ b.toNat
  ·by_cases hL2 : b.toNat ≤ 122
   ·have e2 : lowB b = true := by simp [lowB, hL, hL2]
    simp only [if_pos (show c ≥ 97 by omega), if_pos (show c ≤ 122 by omega)]
    simpa [e2] using Ev.now true
   ·have e2 : lowB b = false := by simp [lowB, hL2]
    simp only [if_pos (show c ≥ 97 by omega), if_neg (show ¬ c ≤ 122 by omega)]
    simpa [e1, e2] using rest
  ·have e2 : lowB b = false := by simp [lowB, hL]
   simp only [if_neg (show ¬ c ≥ 97 by omega)]
   simpa [e1, e2] using rest
/-- A letter's great form. -/
def upI (b : UInt8) : Int := if 97 ≤ b.toNat ∧ b.toNat ≤ 122 then (b.toNat : Int) - 32 else (b.toNat : Int)
theorem spec7upper_is (b : UInt8) : spec_l7upper.f (b.toNat : Int) = some (upI b) := by
 have := u8_lt b
 unfold spec_l7upper.f upI
 by_cases h : 97 ≤ b.toNat
 ·rw [if_pos (by omega)]
  by_cases h2 : b.toNat ≤ 122
  ·rw [if_pos (by omega), if_pos ⟨h, h2⟩]; congr 1; omega
  ·rw [if_neg (by omega), if_neg (by omega)]
 ·rw [if_neg (by omega), if_neg (by omega)]
theorem hexUp (b : UInt8) (h : ¬ hexV b < 0) : bt (⟨#[48, 49, 50, 51, 52, 53, 54, 55, 56, 57, 65, 66, 67, 68, 69, 70]⟩ : ByteArray) (hexV b) = upI b := by
 have key : ∀ n : Fin 256, hexV (UInt8.ofNat n.val) < 0 ∨ bt (⟨#[48, 49, 50, 51, 52, 53, 54, 55, 56, 57, 65, 66, 67, 68, 69, 70]⟩ : ByteArray) (hexV (UInt8.ofNat n.val)) = upI (UInt8.ofNat n.val) := by decide +kernel
 have := key ⟨b.toNat, b.toNat_lt⟩
 simp only [UInt8.ofNat_toNat] at this
 exact this.resolve_left h
theorem and15 (v : Int) (h0 : 0 ≤ v) (h1 : v < 256) : Go.bits .and .u8 v 15 = v % 16 := by
 have key : ∀ n : Fin 256, Go.bits .and .u8 (n.val : Int) 15 = (n.val : Int) % 16 := by decide +kernel
 have := key ⟨v.toNat, by omega⟩
 simpa [Int.toNat_of_nonneg h0] using this
/-- Two hexadecimal digits at a text's head, and what stands behind. -/
def pct : List UInt8 → Option (UInt8 × UInt8 × List UInt8)
 | c :: d :: r => if hexV c < 0 ∨ hexV d < 0 then none else some (c, d, r)
 | _ => none
def pctB (c d : UInt8) : UInt8 := UInt8.ofNat (16 * hexV c + hexV d).toNat
def pctOut (c d : UInt8) : List Int := if freeB (pctB c d) = true then [((pctB c d).toNat : Int)] else [37, upI c, upI d]
/-- A path whose percent signs are worked off, as numbers. -/
def unescI : Nat → List UInt8 → List Int
 | 0, _ => []
 | _ + 1, [] => []
 | n + 1, b :: r => if b = 37 then (match pct r with | none => 37 :: unescI n r | some (c, d, r') => pctOut c d ++ unescI n r') else (b.toNat : Int) :: unescI n r
theorem u8_37 (b : UInt8) : (b.toNat : Int) = 37 ↔ b = 37 := by rw [← UInt8.toNat_inj]; show _ ↔ b.toNat = 37; omega
theorem pctB_val (c d : UInt8) (hc : ¬ hexV c < 0) (hd : ¬ hexV d < 0) : ((pctB c d).toNat : Int) = 16 * hexV c + hexV d := by
 have h1 := hexV_lt c
 have h2 := hexV_lt d
 unfold pctB
 rw [UInt8.toNat_ofNat']
 omega
theorem pctOut_len (c d : UInt8) : (pctOut c d).length ≤ 3 := by unfold pctOut; split <;> simp
theorem unescI_len : ∀ (n : Nat) (r : List UInt8), r.length ≤ n → (unescI n r).length ≤ r.length
 | 0, [], _ => by simp [unescI]
 | n + 1, [], _ => by simp [unescI]
 | n + 1, b :: r, h => by
  simp at h
  unfold unescI
  by_cases hb : b = 37
  ·rw [if_pos hb]
   cases hp : pct r with
   | none => have := unescI_len n r h; simp; omega
   | some q =>
    obtain ⟨c, d, r'⟩ := q
    have hr : r = c :: d :: r' := by
     unfold pct at hp
     split at hp
     ·split at hp
      ·cases hp
      ·injection hp with hp; injection hp with h1 h2; injection h2 with h2 h3; subst h1; subst h2; subst h3; rfl
     ·cases hp
    subst hr
    simp at h
    have := unescI_len n r' (by omega)
    have := pctOut_len c d
    simp; omega
  ·rw [if_neg hb]; have := unescI_len n r h; simp; omega
theorem pct_short (r : List UInt8) (h : r.length ≤ 1) : pct r = none := by
 match r, h with
 | [], _ => rfl
 | [_], _ => rfl
theorem readHexT_two (c d : UInt8) : readHexT [c, d] = if hexV c < 0 ∨ hexV d < 0 then (0, false) else (16 * hexV c + hexV d, true) := by
 unfold readHexT
 rw [if_neg (by simp)]
 simp only [readHexL]
 by_cases h1 : hexV c < 0
 ·simp [h1]
 ·by_cases h2 : hexV d < 0
  ·simp [h1, h2]
  ·simp [h1, h2]
theorem two_of : ∀ r : List UInt8, ¬ r.length ≤ 1 → ∃ c d r', r = c :: d :: r'
 | [], h => absurd (by simp) h
 | [_], h => absurd (by simp) h
 | c :: d :: r', _ => ⟨c, d, r', rfl⟩
theorem specPct_cell (k : Nat) (s : ByteArray) (acc : List Int) (i : Int) (c d : UInt8) (h0 : 0 ≤ i) (h3 : i + 3 ≤ (s.size : Int)) (hs : s.size ≤ 2000000) (ha : acc.length ≤ 2000000) (hb1 : bt s (i + 1) = (c.toNat : Int)) (hb2 : bt s (i + 2) = (d.toNat : Int)) (hx : s.extract (i + 1).toNat (i + 3).toNat = mkB [c, d]) :
  spec_l7percent.j1 (k + 1) s acc i false = (spec_ReadHex.f k (mkB [c, d])).bind fun q => if q.2 = true then ((spec_l7free.f k (q.1 % 256)).bind fun t => if t = true then spec_l7percent.l0 k s (acc ++ [q.1 % 256]) (i + 3) else spec_l7percent.l0 k s (acc ++ [37, upI c, upI d]) (i + 3)) else spec_l7percent.l0 k s (acc ++ [bt s i]) (i + 1) := by
 have hw1 : wrap64 (i + 1) = i + 1 := wrap_id (by omega) (by omega)
 have hw2 : wrap64 (i + 2) = i + 2 := wrap_id (by omega) (by omega)
 have hw3 : wrap64 (i + 3) = i + 3 := wrap_id (by omega) (by omega)
 have hw4 : wrap64 (i + 2 + 1) = i + 3 := by rw [wrap_id (by omega) (by omega)]; omega
 have g1 : (0 : Int) ≤ i + 1 := by omega
 have g2 : i + 1 ≤ i + 3 := by omega
 have g3 : acc.length < 140737488355328 := by omega
 have g4 : i + 1 < (s.size : Int) := by omega
 have g5 : (0 : Int) ≤ i + 2 := by omega
 have g6 : i + 2 < (s.size : Int) := by omega
 have g7 : i < (s.size : Int) := by omega
 have g8 : acc.length + [(37 : Int), upI c, upI d].length < 140737488355328 := by simp only [List.length_cons, List.length_nil]; omega
 rw [spec_l7percent.j1, if_neg Bool.false_ne_true, hw1, hw3, if_pos g1, if_pos g2, if_pos h3, hx]
 congr 1
 funext q
 by_cases hq : q.2 = true
 ·rw [if_pos hq, if_pos hq]
  congr 1
  funext t
  by_cases ht : t = true
  ·rw [if_pos ht, if_pos ht, if_pos g3, hw2, hw4]
  ·rw [if_neg ht, if_neg ht, if_pos g4, hb1, spec7upper_is, Option.bind_some, hw2, if_pos g5, if_pos g6, hb2, spec7upper_is, Option.bind_some, Option.bind_some, if_pos g8, hw4]
 ·rw [if_neg hq, if_neg hq, if_pos h0, if_pos g7, if_pos g3]
theorem specPct_go : ∀ (n : Nat) (r pre : List UInt8) (acc : List Int), r.length ≤ n → (pre ++ r).length ≤ 1048576 → acc.length ≤ pre.length →
  Ev (fun k => spec_l7percent.l0 k (mkB (pre ++ r)) acc (pre.length : Int)) (strOfNums (acc ++ unescI n r)) := by
 intro n
 induction n with
 | zero =>
  intro r pre acc hr hl ha
  obtain rfl : r = [] := List.length_eq_zero_iff.1 (by omega)
  refine Ev.step (f := fun _ => some (strOfNums acc)) (fun k => ?_) (by simpa [unescI] using Ev.now _)
  simp only [spec_l7percent.l0]; rw [if_neg (by rw [size_mk]; simp)]
 | succ n ih =>
  intro r pre acc hr hl ha
  cases r with
  | nil =>
   refine Ev.step (f := fun _ => some (strOfNums acc)) (fun k => ?_) (by simpa [unescI] using Ev.now _)
   simp only [spec_l7percent.l0]; rw [if_neg (by rw [size_mk]; simp)]
  | cons b r =>
   have hl2 := hl
   simp at hl2 hr
   have one : ∀ z, unescI (n + 1) (b :: r) = z :: unescI n r → z = (b.toNat : Int) → Ev (fun k => spec_l7percent.l0 k (mkB (pre ++ b :: r)) (acc ++ [bt (mkB (pre ++ b :: r)) pre.length]) (wrap64 ((pre.length : Int) + 1))) (strOfNums (acc ++ unescI (n + 1) (b :: r))) := by
    intro z hz hzb
    have ih' := ih r (pre ++ [b]) (acc ++ [(b.toNat : Int)]) hr (by rw [← app_mid]; exact hl) (by simp; omega)
    rw [← app_mid, len_snoc] at ih'
    rw [bt_mid, wrap_id (by omega) (by omega), hz, hzb]
    simpa using ih'
   have two : ∀ x, x = true → (∃ z, unescI (n + 1) (b :: r) = z :: unescI n r ∧ z = (b.toNat : Int)) → Ev (fun k => spec_l7percent.j1 k (mkB (pre ++ b :: r)) acc (pre.length : Int) x) (strOfNums (acc ++ unescI (n + 1) (b :: r))) := by
    rintro x rfl ⟨z, hz, hzb⟩
    refine Ev.step (fun k => ?_) (one z hz hzb)
    simp only [spec_l7percent.j1, if_true]
    rw [if_pos (by omega), if_pos (size_lt_mid ..), if_pos (by omega)]
   by_cases hb : b = 37
   ·subst hb
    have hu : unescI (n + 1) (37 :: r) = match pct r with | none => 37 :: unescI n r | some (c, d, r') => pctOut c d ++ unescI n r' := by rw [unescI, if_pos rfl]
    have hcell : ∀ k, spec_l7percent.l0 (k + 1) (mkB (pre ++ 37 :: r)) acc pre.length = spec_l7percent.j1 k (mkB (pre ++ 37 :: r)) acc pre.length (decide (r.length ≤ 1)) := by
     intro k
     simp only [spec_l7percent.l0]
     rw [if_pos (size_lt_mid ..), if_pos (by omega), bt_mid, if_pos (by rfl), wrap_id (by omega) (by omega)]
     congr 1
     rw [size_mk]
     exact decide_eq_decide.2 (by simp; omega)
    refine Ev.step hcell ?_
    by_cases hs : r.length ≤ 1
    ·simp only [decide_eq_true hs]
     exact two true rfl ⟨37, by rw [hu, pct_short r hs], rfl⟩
    ·simp only [decide_eq_false hs]
     obtain ⟨c, d, r', rfl⟩ := two_of r hs
     ·skip
      simp at hl2 hr
      have hx : (mkB (pre ++ 37 :: c :: d :: r')).extract ((pre.length : Int) + 1).toNat ((pre.length : Int) + 3).toNat = mkB [c, d] := by
       rw [extract_mk, show ((pre.length : Int) + 1).toNat = pre.length + 1 by omega, show ((pre.length : Int) + 3).toNat = pre.length + 3 by omega, show pre.length + 3 - (pre.length + 1) = 2 by omega, drop_mid]; rfl
      have hw1 : wrap64 ((pre.length : Int) + 1) = (pre.length : Int) + 1 := wrap_id (by omega) (by omega)
      have hw2 : wrap64 ((pre.length : Int) + 2) = (pre.length : Int) + 2 := wrap_id (by omega) (by omega)
      have hw3 : wrap64 ((pre.length : Int) + 3) = (pre.length : Int) + 3 := wrap_id (by omega) (by omega)
      have hw4 : wrap64 ((pre.length : Int) + 2 + 1) = (pre.length : Int) + 3 := by rw [wrap_id (by omega) (by omega)]; omega
      have hb1 : bt (mkB (pre ++ 37 :: c :: d :: r')) ((pre.length : Int) + 1) = (c.toNat : Int) := by
       have := bt_mid (pre ++ [37]) c (d :: r'); rw [len_snoc, ← app_mid] at this; exact this
      have hb2 : bt (mkB (pre ++ 37 :: c :: d :: r')) ((pre.length : Int) + 2) = (d.toNat : Int) := by
       have := bt_mid (pre ++ [37] ++ [c]) d r'
       simp only [List.length_append, List.length_singleton, List.append_assoc, List.singleton_append] at this
       simpa [Int.add_assoc] using this
      have hsz : ((mkB (pre ++ 37 :: c :: d :: r')).size : Int) = (pre.length : Int) + 3 + r'.length := by rw [size_mk]; simp; omega
      refine Ev.step (fun k => specPct_cell k _ acc _ c d (by omega) (by omega) (by omega) (by omega) hb1 hb2 hx) ?_
      refine (specReadHex_is [c, d]).bind ?_
      rw [readHexT_two]
      by_cases hh : hexV c < 0 ∨ hexV d < 0
      ·simp only [if_pos hh, Bool.false_eq_true, if_false]
       have := one 37 (by rw [hu]; simp [pct, hh]) rfl
       rw [hw1] at this
       exact this
      ·simp only [if_neg hh, if_true]
       have hc : ¬ hexV c < 0 := fun h => hh (.inl h)
       have hd : ¬ hexV d < 0 := fun h => hh (.inr h)
       have hv := pctB_val c d hc hd
       have hlt := u8_lt (pctB c d)
       rw [show (16 * hexV c + hexV d) % 256 = ((pctB c d).toNat : Int) by omega]
       refine (spec7free_is (pctB c d)).bind ?_
       have e1 : pre ++ 37 :: c :: d :: r' = (pre ++ [37, c, d]) ++ r' := by simp
       have e2 : ((pre ++ [37, c, d]).length : Int) = (pre.length : Int) + 3 := by simp
       have hu2 : unescI (n + 1) (37 :: c :: d :: r') = pctOut c d ++ unescI n r' := by rw [hu]; simp [pct, hh]
       rw [hu2]
       cases hf : freeB (pctB c d)
       ·have ih' := ih r' (pre ++ [37, c, d]) (acc ++ [37, upI c, upI d]) (by omega) (by rw [← e1]; exact hl) (by simp; omega)
        rw [← e1, e2] at ih'
        simp only [Bool.false_eq_true, if_false]
        simpa [pctOut, hf] using ih'
       ·have ih' := ih r' (pre ++ [37, c, d]) (acc ++ [((pctB c d).toNat : Int)]) (by omega) (by rw [← e1]; exact hl) (by simp; omega)
        rw [← e1, e2] at ih'
        simp only [if_true]
        simpa [pctOut, hf] using ih'
   ·have hcell : ∀ k, spec_l7percent.l0 (k + 1) (mkB (pre ++ b :: r)) acc pre.length = spec_l7percent.j1 k (mkB (pre ++ b :: r)) acc pre.length true := by
     intro k
     simp only [spec_l7percent.l0]
     rw [if_pos (size_lt_mid ..), if_pos (by omega), bt_mid, if_neg (fun h => hb ((u8_37 b).1 h))]
    refine Ev.step hcell ?_
    exact two true rfl ⟨(b.toNat : Int), by rw [unescI, if_neg hb], rfl⟩
theorem implPct_go : ∀ (n : Nat) (r pre : List UInt8) (acc : List Int), r.length ≤ n → (pre ++ r).length ≤ 1048576 → acc.length ≤ pre.length →
  Ev (fun k => impl_unescaped.l0 k (mkB (pre ++ r)) acc (pre.length : Int)) (strOfNums (acc ++ unescI n r)) := by
 intro n
 induction n with
 | zero =>
  intro r pre acc hr hl ha
  obtain rfl : r = [] := List.length_eq_zero_iff.1 (by omega)
  refine Ev.step (f := fun _ => some (strOfNums acc)) (fun k => ?_) (by simpa [unescI] using Ev.now _)
  simp only [impl_unescaped.l0]; rw [if_neg (by rw [size_mk]; simp)]
 | succ n ih =>
  intro r pre acc hr hl ha
  cases r with
  | nil =>
   refine Ev.step (f := fun _ => some (strOfNums acc)) (fun k => ?_) (by simpa [unescI] using Ev.now _)
   simp only [impl_unescaped.l0]; rw [if_neg (by rw [size_mk]; simp)]
  | cons b r =>
   have hl2 := hl
   simp at hl2 hr
   have two : (∃ z, unescI (n + 1) (b :: r) = z :: unescI n r ∧ z = (b.toNat : Int)) → Ev (fun k => impl_unescaped.j1 k (mkB (pre ++ b :: r)) acc (pre.length : Int) true) (strOfNums (acc ++ unescI (n + 1) (b :: r))) := by
    rintro ⟨z, hz, hzb⟩
    have ih' := ih r (pre ++ [b]) (acc ++ [(b.toNat : Int)]) hr (by rw [← app_mid]; exact hl) (by simp; omega)
    rw [← app_mid, len_snoc] at ih'
    rw [hz, hzb]
    refine Ev.step (fun k => ?_) (by simpa using ih')
    simp only [impl_unescaped.j1, if_true]
    rw [if_pos (by omega), if_pos (size_lt_mid ..), if_pos (by omega), bt_mid, wrap_id (by omega) (by omega)]
   by_cases hb : b = 37
   ·subst hb
    have hu : unescI (n + 1) (37 :: r) = match pct r with | none => 37 :: unescI n r | some (c, d, r') => pctOut c d ++ unescI n r' := by rw [unescI, if_pos rfl]
    have hw2 : wrap64 ((pre.length : Int) + 2) = (pre.length : Int) + 2 := wrap_id (by omega) (by omega)
    by_cases hs : r.length ≤ 1
    ·refine Ev.step (f := fun k => impl_unescaped.j1 k (mkB (pre ++ 37 :: r)) acc (pre.length : Int) true) (fun k => ?_) (two ⟨37, by rw [hu, pct_short r hs], rfl⟩)
     simp only [impl_unescaped.l0]
     rw [if_pos (size_lt_mid ..), if_pos (by omega), bt_mid, if_pos (by rfl), hw2, if_pos (by rw [size_mk]; simp; omega)]
    ·obtain ⟨c, d, r', rfl⟩ := two_of r hs
     ·skip
      simp at hl2 hr
      have hw1 : wrap64 ((pre.length : Int) + 1) = (pre.length : Int) + 1 := wrap_id (by omega) (by omega)
      have hw4 : wrap64 ((pre.length : Int) + 2 + 1) = (pre.length : Int) + 3 := by rw [wrap_id (by omega) (by omega)]; omega
      have hb1 : bt (mkB (pre ++ 37 :: c :: d :: r')) ((pre.length : Int) + 1) = (c.toNat : Int) := by
       have := bt_mid (pre ++ [37]) c (d :: r'); rw [len_snoc, ← app_mid] at this; exact this
      have hb2 : bt (mkB (pre ++ 37 :: c :: d :: r')) ((pre.length : Int) + 2) = (d.toNat : Int) := by
       have := bt_mid (pre ++ [37] ++ [c]) d r'
       simp only [List.length_append, List.length_singleton, List.append_assoc, List.singleton_append] at this
       simpa [Int.add_assoc] using this
      have hsz : ((mkB (pre ++ 37 :: c :: d :: r')).size : Int) = (pre.length : Int) + 3 + r'.length := by rw [size_mk]; simp; omega
      have hc16 := hexV_lt c
      have hd16 := hexV_lt d
      have hcell : ∀ k, impl_unescaped.l0 (k + 1) (mkB (pre ++ 37 :: c :: d :: r')) acc pre.length = (impl_hexOf.f k (c.toNat : Int)).bind fun t => if t < 0 then impl_unescaped.j1 k (mkB (pre ++ 37 :: c :: d :: r')) acc (pre.length : Int) true else (impl_hexOf.f k (d.toNat : Int)).bind fun u => impl_unescaped.j1 k (mkB (pre ++ 37 :: c :: d :: r')) acc (pre.length : Int) (decide (u < 0)) := by
       intro k
       simp only [impl_unescaped.l0, hw1, hw2, hb1, hb2]
       rw [bt_mid]
       simp only [hsz, if_pos (show (((37 : UInt8).toNat : Nat) : Int) = 37 from rfl), if_pos (show (pre.length : Int) < (pre.length : Int) + 3 + r'.length by omega), if_pos (show (0 : Int) ≤ (pre.length : Int) by omega), if_neg (show ¬ (pre.length : Int) + 2 ≥ (pre.length : Int) + 3 + r'.length by omega), if_pos (show (0 : Int) ≤ (pre.length : Int) + 1 by omega), if_pos (show (pre.length : Int) + 1 < (pre.length : Int) + 3 + r'.length by omega), if_pos (show (0 : Int) ≤ (pre.length : Int) + 2 by omega), if_pos (show (pre.length : Int) + 2 < (pre.length : Int) + 3 + r'.length by omega)]
      refine Ev.step hcell ?_
      refine (hexOf_is c).bind ?_
      by_cases hc : hexV c < 0
      ·simp only [if_pos hc]
       exact two ⟨37, by rw [hu]; simp [pct, hc], rfl⟩
      simp only [if_neg hc]
      refine (hexOf_is d).bind ?_
      by_cases hd : hexV d < 0
      ·simp only [decide_eq_true hd]
       exact two ⟨37, by rw [hu]; simp [pct, hd], rfl⟩
      simp only [decide_eq_false hd]
      have hv := pctB_val c d hc hd
      have hlt := u8_lt (pctB c d)
      have hval : wrap64 (wrap64 (16 * hexV c) + hexV d) % 256 = ((pctB c d).toNat : Int) := by
       rw [wrap_id (a := 16 * hexV c) (by omega) (by omega), wrap_id (by omega) (by omega)]; omega
      have hdiv : ((pctB c d).toNat : Int) / 16 = hexV c := by omega
      have hmod : Go.bits .and .u8 ((pctB c d).toNat : Int) 15 = hexV d := by rw [and15 _ (by omega) hlt]; omega
      have hcell2 : ∀ k, impl_unescaped.j1 (k + 1) (mkB (pre ++ 37 :: c :: d :: r')) acc pre.length false = (impl_hexOf.f k (c.toNat : Int)).bind fun t => (impl_hexOf.f k (d.toNat : Int)).bind fun u => (impl_isFree.f ((wrap64 ((wrap64 (16 * t)) + u)) % 256)).bind fun q => if q = true then impl_unescaped.l0 k (mkB (pre ++ 37 :: c :: d :: r')) (acc ++ [(wrap64 ((wrap64 (16 * t)) + u)) % 256]) ((pre.length : Int) + 3) else (if 0 ≤ (((wrap64 ((wrap64 (16 * t)) + u)) % 256) / 16) then (if (((wrap64 ((wrap64 (16 * t)) + u)) % 256) / 16) < 16 then (if 0 ≤ (Go.bits .and .u8 ((wrap64 ((wrap64 (16 * t)) + u)) % 256) 15) then (if (Go.bits .and .u8 ((wrap64 ((wrap64 (16 * t)) + u)) % 256) 15) < 16 then impl_unescaped.l0 k (mkB (pre ++ 37 :: c :: d :: r')) (acc ++ [37, bt (⟨#[48, 49, 50, 51, 52, 53, 54, 55, 56, 57, 65, 66, 67, 68, 69, 70]⟩ : ByteArray) (((wrap64 ((wrap64 (16 * t)) + u)) % 256) / 16), bt (⟨#[48, 49, 50, 51, 52, 53, 54, 55, 56, 57, 65, 66, 67, 68, 69, 70]⟩ : ByteArray) (Go.bits .and .u8 ((wrap64 ((wrap64 (16 * t)) + u)) % 256) 15)]) ((pre.length : Int) + 3) else none) else none) else none) else none) := by
       intro k
       simp only [impl_unescaped.j1, Bool.false_eq_true, if_false, hw1, hw2, hw4, hb1, hb2, hsz, Option.bind_some]
       have l3 : ∀ x y z : Int, acc.length + [x, y, z].length < 140737488355328 := by intro x y z; simp; omega
       simp only [if_pos (show (0 : Int) ≤ (pre.length : Int) + 1 by omega), if_pos (show (pre.length : Int) + 1 < (pre.length : Int) + 3 + r'.length by omega), if_pos (show (0 : Int) ≤ (pre.length : Int) + 2 by omega), if_pos (show (pre.length : Int) + 2 < (pre.length : Int) + 3 + r'.length by omega), if_pos (show acc.length < 140737488355328 by omega), if_pos (l3 _ _ _)]
      refine Ev.step hcell2 ?_
      refine (hexOf_is c).bind ?_
      refine (hexOf_is d).bind ?_
      simp only [hval, implFree_is, Option.bind_some, hdiv, hmod, hexUp c hc, hexUp d hd]
      simp only [if_pos (show 0 ≤ hexV c by omega), if_pos hc16, if_pos (show 0 ≤ hexV d by omega), if_pos hd16]
      have e1 : pre ++ 37 :: c :: d :: r' = (pre ++ [37, c, d]) ++ r' := by simp
      have e2 : ((pre ++ [37, c, d]).length : Int) = (pre.length : Int) + 3 := by simp
      have hu2 : unescI (n + 1) (37 :: c :: d :: r') = pctOut c d ++ unescI n r' := by rw [hu]; simp [pct, hc, hd]
      rw [hu2]
      cases hf : freeB (pctB c d)
      ·have ih' := ih r' (pre ++ [37, c, d]) (acc ++ [37, upI c, upI d]) (by omega) (by rw [← e1]; exact hl) (by simp; omega)
       rw [← e1, e2] at ih'
       simp only [Bool.false_eq_true, if_false]
       simpa [pctOut, hf] using ih'
      ·have ih' := ih r' (pre ++ [37, c, d]) (acc ++ [((pctB c d).toNat : Int)]) (by omega) (by rw [← e1]; exact hl) (by simp; omega)
       rw [← e1, e2] at ih'
       simp only [if_true]
       simpa [pctOut, hf] using ih'
   ·refine Ev.step (f := fun k => impl_unescaped.j1 k (mkB (pre ++ b :: r)) acc (pre.length : Int) true) (fun k => ?_) (two ⟨(b.toNat : Int), by rw [unescI, if_neg hb], rfl⟩)
    simp only [impl_unescaped.l0]
    rw [if_pos (size_lt_mid ..), if_pos (by omega), bt_mid, if_neg (fun h => hb ((u8_37 b).1 h))]
/-! #### Visible -/
def visB (b : UInt8) : Bool := decide (33 ≤ b.toNat) && decide (b.toNat ≤ 126)
theorem implVis_is (b : UInt8) : impl_isVisible.f (b.toNat : Int) = some (visB b) := by
 unfold impl_isVisible.f visB
 by_cases h : 33 ≤ b.toNat
 ·rw [if_pos (by omega), decide_eq_true h, Bool.true_and]; congr 1; exact decide_eq_decide.2 (by omega)
 ·rw [if_neg (by omega), decide_eq_false h, Bool.false_and]
theorem implAllVis_is (s : ByteArray) (hs : s.size ≤ 9223372036854775806) : Ev (fun k => impl_all__impl_isVisible.f k s) ((bl s).all visB) :=
 all_ev impl_all__impl_isVisible.l0 (fun _ x => impl_isVisible.f x) visB (fun b => Ev.const (implVis_is b))
  (fun k s i => by simp only [impl_all__impl_isVisible.l0]) s hs
theorem specVisible_go : ∀ (r pre : List UInt8), (pre ++ r).length ≤ 9223372036854775806 → Ev (fun k => spec_l6visible.l0 k (mkB (pre ++ r)) pre.length) (r.all visB && decide (1 ≤ (pre ++ r).length))
 | [], pre, _ => Ev.step (f := fun _ => some (decide (1 ≤ (pre ++ []).length))) (fun k => by
   simp only [spec_l6visible.l0]
   rw [if_neg (by rw [size_mk]; simp), size_mk]
   congr 1; exact decide_eq_decide.2 (by omega)) (by simpa using Ev.now _)
 | b :: r, pre, hl => by
  have ih := specVisible_go r (pre ++ [b]) (by rw [← app_mid]; exact hl)
  rw [← app_mid, len_snoc] at ih
  have hw : wrap64 ((pre.length : Int) + 1) = (pre.length : Int) + 1 := by simp at hl; exact wrap_id (by omega) (by omega)
  have hcell : ∀ k, spec_l6visible.l0 (k + 1) (mkB (pre ++ b :: r)) pre.length = if visB b = true then spec_l6visible.l0 k (mkB (pre ++ b :: r)) (pre.length + 1) else some false := by
   intro k
   simp only [spec_l6visible.l0]
   rw [if_pos (size_lt_mid ..), if_pos (by omega), bt_mid, hw]
   by_cases h1 : (b.toNat : Int) < 33
   ·rw [if_pos h1, if_neg]; simp [visB]; omega
   ·by_cases h2 : (b.toNat : Int) > 126
    ·rw [if_neg h1, if_pos h2, if_neg]; simp [visB]; omega
    ·rw [if_neg h1, if_neg h2, if_pos]; simp [visB]; omega
  by_cases hv : visB b = true
  ·refine Ev.step (fun k => by rw [hcell, if_pos hv]) ?_
   simpa [hv] using ih
  ·refine Ev.step (f := fun _ => some false) (fun k => by rw [hcell, if_neg hv]) ?_
   simpa [hv] using Ev.now false
theorem specVisible_is (s : ByteArray) (hs : s.size ≤ 9223372036854775806) : Ev (fun k => spec_l6visible.f k s) ((bl s).all visB && decide (1 ≤ s.size)) := by
 have := specVisible_go (bl s) [] (by simpa [size_bl] using hs)
 simpa [spec_l6visible.f, mk_bl, size_bl] using this
/-! #### Clean -/
/-- The segments that stay. -/
def cleanK : List (List UInt8) → List (List UInt8) → List (List UInt8)
 | kept, [] => kept
 | kept, s :: r => if s = [46] then (if r = [] then kept ++ [[]] else cleanK kept r) else if s = [46, 46] then (if r = [] then kept.dropLast ++ [[]] else cleanK kept.dropLast r) else cleanK (kept ++ [s]) r
def foldS (kept : List (List UInt8)) (s : List UInt8) : List (List UInt8) := if s = [46] then kept else if s = [46, 46] then kept.dropLast else kept ++ [s]
def dotS (s : List UInt8) : Bool := decide (s = [46]) || decide (s = [46, 46])
theorem cleanK_last : ∀ (segs kept : List (List UInt8)) (h : segs ≠ []), cleanK kept segs = if dotS (segs.getLast h) = true then segs.foldl foldS kept ++ [[]] else segs.foldl foldS kept
 | [s], kept, _ => by
  by_cases h1 : s = [46]
  ·subst h1; simp [cleanK, dotS, foldS]
  ·by_cases h2 : s = [46, 46]
   ·subst h2; simp [cleanK, dotS, foldS]
   ·simp [cleanK, dotS, foldS, h1, h2]
 | s :: t :: r, kept, _ => by
  have e : (s :: t :: r).getLast (by simp) = (t :: r).getLast (by simp) := by simp
  rw [e, List.foldl_cons, ← cleanK_last (t :: r) (foldS kept s) (by simp)]
  unfold foldS
  rw [cleanK]
  by_cases h1 : s = [46]
  ·simp [h1]
  ·by_cases h2 : s = [46, 46]
   ·simp [h1, h2]
   ·simp [h1, h2]
/-- The segments with a slash ahead of each. -/
def flatS (l : List (List UInt8)) : List UInt8 := l.flatMap (47 :: ·)
theorem flatS_app (a b : List (List UInt8)) : flatS (a ++ b) = flatS a ++ flatS b := by simp [flatS]
theorem flatS_one (s : List UInt8) : flatS [s] = 47 :: s := by simp [flatS]
theorem flatS_cons (s : List UInt8) (r : List (List UInt8)) : flatS (s :: r) = 47 :: s ++ flatS r := by simp [flatS]
theorem flatS_drop (l : List (List UInt8)) : (flatS l.dropLast).length ≤ (flatS l).length := by
 rcases List.eq_nil_or_concat l with rfl | ⟨a, b, rfl⟩
 ·simp
 ·rw [List.concat_eq_append, List.dropLast_concat, flatS_app]; simp
theorem cleanK_flat : ∀ (segs kept : List (List UInt8)), (flatS (cleanK kept segs)).length ≤ (flatS kept).length + (flatS segs).length + 1
 | [], kept => by simp [cleanK]; omega
 | s :: r, kept => by
  unfold cleanK
  have hd := flatS_drop kept
  rw [flatS_cons]
  by_cases h1 : s = [46]
  ·rw [if_pos h1]
   by_cases hr : r = []
   ·rw [if_pos hr, flatS_app, flatS_one]; simp <;> omega
   ·rw [if_neg hr]; have := cleanK_flat r kept; simp <;> omega
  ·rw [if_neg h1]
   by_cases h2 : s = [46, 46]
   ·rw [if_pos h2]
    by_cases hr : r = []
    ·rw [if_pos hr, flatS_app, flatS_one]; simp; omega
    ·rw [if_neg hr]; have := cleanK_flat r kept.dropLast; simp; omega
   ·rw [if_neg h2]
    have := cleanK_flat r (kept ++ [s])
    rw [flatS_app, flatS_one] at this
    simp at this ⊢; omega
theorem flatS_split : ∀ l : List UInt8, flatS (splitL 47 l) = 47 :: l
 | [] => by simp [splitL, flatS]
 | b :: r => by
  have ih := flatS_split r
  by_cases h : b = 47
  ·subst h; rw [splitL, if_pos rfl, flatS_cons, ih]; simp
  ·rw [splitL, if_neg h, flatS_cons]
   have hne := splitL_ne 47 r
   cases hs : splitL 47 r with
   | nil => exact absurd hs hne
   | cons x y => rw [hs, flatS_cons] at ih; simp at ih; simp [ih]
theorem flatS_len (l : List (List UInt8)) : l.length ≤ (flatS l).length := by
 induction l with
 | nil => simp
 | cons s r ih => rw [flatS_cons]; simp; omega
/-- The path out of its segments. -/
def pathOf (l : List (List UInt8)) : List UInt8 := if flatS l = [] then [47] else flatS l
theorem join_flat (l : List (List UInt8)) : 47 :: Lib.join l [47] = pathOf l := by
 unfold pathOf
 cases l with
 | nil => simp [Lib.join_nil, flatS]
 | cons s r =>
  rw [if_neg (by simp [flatS]), Lib.join_cons, flatS_cons]
  simp [Lib.joinTail, flatS, List.flatMap]
theorem rdOf_map (pre : List (List UInt8)) (x : List UInt8) (r : List (List UInt8)) : rdOf ByteArray.empty ((pre ++ x :: r).map mkB) (pre.length : Int) = mkB x := by
 rw [List.map_append, List.map_cons, rdOf, show (pre.length : Int) = ((pre.map mkB).length : Int) by simp, getD_mid]
theorem mkApp (a b : List UInt8) : mkB a ++ mkB b = mkB (a ++ b) := by apply toList_inj; rw [toList_mk, toList_bl, bl, ByteArray.data_append]; simp [mkB]
theorem specClean_end : ∀ (r pre : List (List UInt8)) (acc : List UInt8), (pre ++ r).length ≤ 1048576 → acc.length + (flatS r).length ≤ 1048576 →
  Ev (fun k => spec_CleanPath.l2 k ((pre ++ r).map mkB) (mkB acc) (pre.length : Int)) (mkB (if acc ++ flatS r = [] then [47] else acc ++ flatS r))
 | [], pre, acc, hl, ha => by
  refine Ev.step (f := fun _ => some (mkB (if acc = [] then [47] else acc))) (fun k => ?_) (by simpa [flatS] using Ev.now _)
  simp only [spec_CleanPath.l2]
  rw [if_neg (by simp), toList_mk]
  by_cases h : acc = []
  ·rw [if_pos h, if_pos h]; rfl
  ·rw [if_neg h, if_neg h]
 | x :: r, pre, acc, hl, ha => by
  rw [flatS_cons] at ha
  simp at ha hl
  have ih := specClean_end r (pre ++ [x]) (acc ++ 47 :: x) (by simp; omega) (by simp; omega)
  rw [← app_mid, len_snoc] at ih
  have e : acc ++ flatS (x :: r) = acc ++ 47 :: x ++ flatS r := by rw [flatS_cons]; simp
  rw [e]
  refine Ev.step (fun k => ?_) ih
  simp only [spec_CleanPath.l2]
  rw [rdOf_map, show (⟨#[47]⟩ : ByteArray) = mkB [47] from rfl, mkApp, mkApp, if_pos (by simp; omega), if_pos (by rw [size_mk]; omega), if_pos (by omega), if_pos (by rw [size_mk, size_mk]; simp; omega), wrap_id (by omega) (by omega)]
  simp
theorem specClean_seg : ∀ (r pre kept : List (List UInt8)), (pre ++ r).length ≤ 1048576 → kept.length ≤ pre.length → (flatS kept).length + (flatS r).length ≤ 1000000 →
  Ev (fun k => spec_CleanPath.l1 k ((pre ++ r).map mkB) (kept.map mkB) (pre.length : Int)) (mkB (pathOf (cleanK kept r)))
 | [], pre, kept, hl, hk, ha => by
  have := specClean_end kept [] [] (by simp at hl ⊢; omega) (by simp; omega)
  refine Ev.step (f := fun k => spec_CleanPath.l2 k (kept.map mkB) (⟨#[]⟩ : ByteArray) 0) (fun k => by simp only [spec_CleanPath.l1]; rw [if_neg (by simp)]) ?_
  show Ev (fun k => spec_CleanPath.l2 k (kept.map mkB) (⟨#[]⟩ : ByteArray) 0) (mkB (pathOf kept))
  exact this
 | s :: r, pre, kept, hl, hk, ha => by
  have hl2 := hl
  simp at hl2
  rw [flatS_cons] at ha
  simp at ha
  have hd := flatS_drop kept
  have hw : wrap64 ((pre.length : Int) + 1) = (pre.length : Int) + 1 := wrap_id (by omega) (by omega)
  have hlen : (((pre ++ s :: r).map mkB).length : Int) = (pre.length : Int) + 1 + r.length := by simp; omega
  have hk1 : ∀ kept' : List (List UInt8), kept'.length ≤ kept.length + 1 → (kept'.map mkB).length < 8796093022208 := by intro kept' h; simp; omega
  -- behind j5
  have dots : ∀ kept' : List (List UInt8), kept'.length ≤ kept.length → (flatS kept').length ≤ (flatS kept).length → Ev (fun k => spec_CleanPath.j5 k ((pre ++ s :: r).map mkB) (kept'.map mkB) (pre.length : Int) true) (mkB (pathOf (if r = [] then kept' ++ [[]] else cleanK kept' r))) := by
   intro kept' h1 h2
   by_cases hr : r = []
   ·subst hr
    rw [if_pos rfl]
    have ih := specClean_seg [] (pre ++ [s]) (kept' ++ [[]]) (by simpa using hl2) (by simp; omega) (by rw [flatS_app, flatS_one]; simp [flatS] at ha h2 ⊢; omega)
    rw [List.append_nil, len_snoc] at ih
    simp only [cleanK] at ih
    refine Ev.step (fun k => ?_) ih
    simp only [spec_CleanPath.j5, if_true]
    rw [hw, hlen, if_pos (by simp), if_pos (hk1 _ (by omega))]
    simp [mkB]
   ·rw [if_neg hr]
    have ih := specClean_seg r (pre ++ [s]) kept' (by simp; omega) (by simp; omega) (by omega)
    rw [← app_mid, len_snoc] at ih
    refine Ev.step (fun k => ?_) ih
    have : 1 ≤ r.length := List.length_pos_iff.2 hr
    simp only [spec_CleanPath.j5, if_true]
    rw [hw, hlen, if_neg (by omega)]
  have h0 : (0 : Int) ≤ (pre.length : Int) := by omega
  have hlt : (pre.length : Int) < (((pre ++ s :: r).map mkB).length : Int) := by rw [hlen]; omega
  have hread : ∀ t : List UInt8, ((mkB s).toList = t) ↔ s = t := fun t => by rw [toList_mk]
  by_cases h1 : s = [46]
  ·rw [cleanK, if_pos h1]
   refine Ev.step (f := fun k => spec_CleanPath.j3 k ((pre ++ s :: r).map mkB) (kept.map mkB) (pre.length : Int) true) (fun k => by simp only [spec_CleanPath.l1]; rw [if_pos hlt, if_pos h0, rdOf_map, if_pos ((hread _).2 h1)]) ?_
   refine Ev.step (f := fun k => spec_CleanPath.j4 k ((pre ++ s :: r).map mkB) (kept.map mkB) (pre.length : Int) true false) (fun k => by simp only [spec_CleanPath.j3]; rw [if_pos h0, if_pos hlt, rdOf_map, if_neg (fun h => by have := (hread _).1 h; rw [h1] at this; cases this)]) ?_
   refine Ev.step (f := fun k => spec_CleanPath.j5 k ((pre ++ s :: r).map mkB) (kept.map mkB) (pre.length : Int) true) (fun k => by simp only [spec_CleanPath.j4, Bool.false_eq_true, if_false]) ?_
   exact dots kept (Nat.le_refl _) (Nat.le_refl _)
  ·rw [cleanK, if_neg h1]
   by_cases h2 : s = [46, 46]
   ·rw [if_pos h2]
    have hbq : ((mkB s).toList == ([46, 46] : List UInt8)) = true := by rw [toList_mk]; exact beq_iff_eq.2 h2
    refine Ev.step (f := fun k => spec_CleanPath.j3 k ((pre ++ s :: r).map mkB) (kept.map mkB) (pre.length : Int) true) (fun k => by simp only [spec_CleanPath.l1]; rw [if_pos hlt, if_pos h0, rdOf_map, if_neg (fun h => h1 ((hread _).1 h)), hbq]) ?_
    refine Ev.step (f := fun k => spec_CleanPath.j4 k ((pre ++ s :: r).map mkB) (kept.map mkB) (pre.length : Int) true (decide (((kept.map mkB).length : Int) > 0))) (fun k => by simp only [spec_CleanPath.j3]; rw [if_pos h0, if_pos hlt, rdOf_map, if_pos ((hread _).2 h2)]) ?_
    by_cases hk0 : kept = []
    ·subst hk0
     refine Ev.step (f := fun k => spec_CleanPath.j5 k ((pre ++ s :: r).map mkB) (([] : List (List UInt8)).map mkB) (pre.length : Int) true) (fun k => by simp [spec_CleanPath.j4]) ?_
     exact dots [] (Nat.le_refl _) (Nat.le_refl _)
    ·have hkl : 1 ≤ kept.length := List.length_pos_iff.2 hk0
     have hwk : wrap64 (((kept.map mkB).length : Int) - 1) = ((kept.length - 1 : Nat) : Int) := by rw [wrap_id (by simp; omega) (by simp; omega)]; simp; omega
     have htake : (kept.map mkB).take (kept.length - 1) = kept.dropLast.map mkB := by rw [List.map_dropLast, List.dropLast_eq_take]; simp
     refine Ev.step (f := fun k => spec_CleanPath.j5 k ((pre ++ s :: r).map mkB) (kept.dropLast.map mkB) (pre.length : Int) true) (fun k => ?_) (dots kept.dropLast (by simp) hd)
     simp only [spec_CleanPath.j4]
     rw [if_pos (decide_eq_true (by simp <;> omega)), hwk, if_pos (by omega), if_pos (by simp <;> omega), Int.toNat_natCast, htake]
   ·rw [if_neg h2]
    have hbq : ((mkB s).toList == ([46, 46] : List UInt8)) = false := by rw [toList_mk]; exact beq_eq_false_iff_ne.2 h2
    refine Ev.step (f := fun k => spec_CleanPath.j3 k ((pre ++ s :: r).map mkB) (kept.map mkB) (pre.length : Int) false) (fun k => by simp only [spec_CleanPath.l1]; rw [if_pos hlt, if_pos h0, rdOf_map, if_neg (fun h => h1 ((hread _).1 h)), hbq]) ?_
    refine Ev.step (f := fun k => spec_CleanPath.j4 k ((pre ++ s :: r).map mkB) (kept.map mkB) (pre.length : Int) false false) (fun k => by simp only [spec_CleanPath.j3]; rw [if_pos h0, if_pos hlt, rdOf_map, if_neg (fun h => h2 ((hread _).1 h))]) ?_
    refine Ev.step (f := fun k => spec_CleanPath.j5 k ((pre ++ s :: r).map mkB) (kept.map mkB) (pre.length : Int) false) (fun k => by simp only [spec_CleanPath.j4, Bool.false_eq_true, if_false]) ?_
    have ih := specClean_seg r (pre ++ [s]) (kept ++ [s]) (by simp; omega) (by simp; omega) (by rw [flatS_app, flatS_one]; simp; omega)
    rw [← app_mid, len_snoc, show (kept ++ [s]).map mkB = kept.map mkB ++ [mkB s] by simp] at ih
    refine Ev.step (fun k => ?_) ih
    simp only [spec_CleanPath.j5, Bool.false_eq_true, if_false]
    rw [if_pos h0, if_pos hlt, if_pos (hk1 _ (by omega)), rdOf_map, hw]
theorem join_map (l : List (List UInt8)) : (l.map mkB).map (·.data.toList) = l := by
 rw [List.map_map]
 have : ((fun x : ByteArray => x.data.toList) ∘ mkB) = id := by funext x; exact bl_mk x
 rw [this, List.map_id]
theorem stringsJoin_slash (l : List (List UInt8)) (h : (flatS l).length ≤ 1048576) : ∃ j, strings_Join.f (l.map mkB) (⟨#[47]⟩ : ByteArray) = some j ∧ j.size ≤ 1048576 ∧ (⟨#[47]⟩ : ByteArray) ++ j = mkB (pathOf l) := by
 have hj := join_flat l
 have hln : (47 :: Lib.join l [47]).length ≤ 1048577 := by
  rw [hj]; unfold pathOf; split
  ·simp
  ·omega
 simp at hln
 have hl := flatS_len l
 refine ⟨mkB (Lib.join l [47]), ?_, by rw [size_mk]; omega, ?_⟩
 ·unfold strings_Join.f
  rw [join_map]
  have e : (⟨#[47]⟩ : ByteArray).data.toList = [47] := rfl
  rw [e, if_pos ⟨by simp; omega, by omega⟩]; rfl
 ·rw [show (⟨#[47]⟩ : ByteArray) = mkB [47] from rfl, mkApp, ← hj]; rfl
theorem implClean_seg (S : List (List UInt8)) (hS : S ≠ []) : ∀ (r pre out : List (List UInt8)), S = pre ++ r → S.length ≤ 1000000 → out.length ≤ pre.length → (flatS out).length + (flatS r).length ≤ 1000000 →
  Ev (fun k => impl_CleanPath.l0 k (out.map mkB) (S.map mkB) (S.map mkB) (S.length : Int) (pre.length : Int)) (mkB (pathOf (if dotS (S.getLast hS) = true then r.foldl foldS out ++ [[]] else r.foldl foldS out)))
 | [], pre, out, hp, hl, ho, ha => by
  have hS1 : 1 ≤ S.length := List.length_pos_iff.2 hS
  have hw : wrap64 (((S.map mkB).length : Int) - 1) = ((S.length - 1 : Nat) : Int) := by rw [wrap_id (by simp; omega) (by simp; omega)]; simp; omega
  have hrd : rdOf ByteArray.empty (S.map mkB) ((S.length - 1 : Nat) : Int) = mkB (S.getLast hS) := by
   have e : S.dropLast ++ S.getLast hS :: [] = S := List.dropLast_concat_getLast hS
   have := rdOf_map S.dropLast (S.getLast hS) []
   rw [e, List.length_dropLast] at this
   exact this
  have hon : (out.map mkB).length < 8796093022208 := by simp; subst hp; simp at hl; omega
  have hpl : S.length = pre.length := by rw [hp]; simp
  have hcell : ∀ k, impl_CleanPath.l0 (k + 1) (out.map mkB) (S.map mkB) (S.map mkB) (S.length : Int) (pre.length : Int) = if dotS (S.getLast hS) = true then (strings_Join.f (out.map mkB ++ [(⟨#[]⟩ : ByteArray)]) (⟨#[47]⟩ : ByteArray)).bind fun t => if 1 + t.size ≤ 9223372036854775807 then some ((⟨#[47]⟩ : ByteArray) ++ t) else none else (strings_Join.f (out.map mkB) (⟨#[47]⟩ : ByteArray)).bind fun t => if 1 + t.size ≤ 9223372036854775807 then some ((⟨#[47]⟩ : ByteArray) ++ t) else none := by
   intro k
   simp only [impl_CleanPath.l0, hw, hrd, toList_mk]
   rw [if_neg (by omega), if_pos (by omega), if_pos (by simp; omega)]
   unfold dotS
   by_cases h1 : S.getLast hS = [46]
   ·rw [if_pos h1, if_pos hon, if_pos (by simp [h1])]
   ·rw [if_neg h1]
    by_cases h2 : S.getLast hS = [46, 46]
    ·rw [if_pos h2, if_pos hon, if_pos (by simp [h2])]
    ·rw [if_neg h2, if_neg (by simp [h1, h2])]
  refine Ev.step (f := fun _ => some (mkB (pathOf (if dotS (S.getLast hS) = true then out ++ [[]] else out)))) (fun k => ?_) (Ev.now _)
  rw [hcell]
  simp [flatS] at ha
  by_cases hd : dotS (S.getLast hS) = true
  ·obtain ⟨j, e1, e2, e3⟩ := stringsJoin_slash (out ++ [[]]) (by rw [flatS_app, flatS_one]; simp [flatS]; omega)
   rw [List.map_append, List.map_singleton, show mkB [] = (⟨#[]⟩ : ByteArray) from rfl] at e1
   rw [if_pos hd, if_pos hd, e1, Option.bind_some, if_pos (by omega), e3]
  ·obtain ⟨j, e1, e2, e3⟩ := stringsJoin_slash out (by simp [flatS]; omega)
   rw [if_neg hd, if_neg hd, e1, Option.bind_some, if_pos (by omega), e3]
 | s :: r, pre, out, hp, hl, ho, ha => by
  have hd := flatS_drop out
  rw [flatS_cons] at ha
  simp at ha
  have hlen : S.length = pre.length + (r.length + 1) := by rw [hp]; simp
  have hw : wrap64 ((pre.length : Int) + 1) = (pre.length : Int) + 1 := wrap_id (by omega) (by omega)
  have hrd : rdOf ByteArray.empty (S.map mkB) (pre.length : Int) = mkB s := by rw [hp]; exact rdOf_map pre s r
  have ih := fun out' h1 h2 => implClean_seg S hS r (pre ++ [s]) out' (by rw [hp]; simp) hl h1 h2
  simp only [len_snoc] at ih
  have hlt : (pre.length : Int) < (S.length : Int) := by omega
  have hlt2 : (pre.length : Int) < ((S.map mkB).length : Int) := by simp; omega
  rw [List.foldl_cons]
  by_cases h1 : s = [46]
  ·have ih' := ih out (by simp; omega) (by omega)
   have e : foldS out s = out := by simp [foldS, h1]
   rw [e]
   refine Ev.step (fun k => ?_) ih'
   simp only [impl_CleanPath.l0]
   rw [if_pos hlt, if_pos (by omega), if_pos hlt2, hrd, toList_mk, if_pos h1, hw]
  ·by_cases h2 : s = [46, 46]
   ·have ih' := ih out.dropLast (by simp; omega) (by omega)
    have e : foldS out s = out.dropLast := by simp [foldS, h2]
    rw [e]
    refine Ev.step (fun k => ?_) ih'
    have hmx : mx 0 (wrap64 (((out.map mkB).length : Int) - 1)) = ((out.length - 1 : Nat) : Int) := by
     rw [wrap_id (by simp; omega) (by simp; omega)]; unfold mx; simp; split <;> omega
    have htake : (out.map mkB).take (out.length - 1) = out.dropLast.map mkB := by rw [List.map_dropLast, List.dropLast_eq_take]; simp
    simp only [impl_CleanPath.l0]
    rw [if_pos hlt, if_pos (by omega), if_pos hlt2, hrd, toList_mk, if_neg h1, if_pos h2, hmx, if_pos (by omega), if_pos (by simp <;> omega), Int.toNat_natCast, htake, hw]
   ·have ih' := ih (out ++ [s]) (by simp; omega) (by rw [flatS_app, flatS_one]; simp; omega)
    have e : foldS out s = out ++ [s] := by simp [foldS, h1, h2]
    rw [e]
    rw [List.map_append, List.map_singleton] at ih'
    refine Ev.step (fun k => ?_) ih'
    simp only [impl_CleanPath.l0]
    rw [if_pos hlt, if_pos (by omega), if_pos hlt2, hrd, toList_mk, if_neg h1, if_neg h2, if_pos (by simp; omega), hw]
/-- The clean form of a path. -/
def cleanL (p : List UInt8) : List UInt8 :=
 if p.length ≤ 200 ∧ p.head? = some 47 ∧ p.all visB = true ∧ (p.any fun b => decide (b = 35) || decide (b = 63)) = false then pathOf (cleanK [] (splitL 47 ((strOfNums (unescI p.length p)).data.toList.drop 1))) else []
theorem unesc_head (r : List UInt8) : (strOfNums (unescI (47 :: r).length (47 :: r))).data.toList = 47 :: (strOfNums (unescI r.length r)).data.toList := by
 rw [List.length_cons, unescI, if_neg (by decide)]; simp [strOfNums]
theorem unesc_size (l : List UInt8) : (strOfNums (unescI l.length l)).size ≤ l.length := by
 rw [size_strOf]; exact unescI_len _ _ (Nat.le_refl _)
theorem u8_35 (b : UInt8) : (b.toNat : Int) = 35 ↔ b = 35 := by rw [← UInt8.toNat_inj]; show _ ↔ b.toNat = 35; omega
theorem u8_63 (b : UInt8) : (b.toNat : Int) = 63 ↔ b = 63 := by rw [← UInt8.toNat_inj]; show _ ↔ b.toNat = 63; omega
theorem u8_47 (b : UInt8) : (b.toNat : Int) = 47 ↔ b = 47 := by rw [← UInt8.toNat_inj]; show _ ↔ b.toNat = 47; omega
theorem specClean_hash (P : List UInt8) (hP : P.length ≤ 1000) (res : ByteArray)
  (hres : Ev (fun k => (spec_l7percent.f k (mkB P)).bind fun t135 => (if 1 ≤ (t135.size : Int) then ((spec_l7split.f k (t135.extract 1 t135.size) 47).bind fun t136 => (spec_CleanPath.l1 k t136 ([] : List ByteArray) 0)) else (none))) res) :
  ∀ (r pre : List UInt8), P = pre ++ r → Ev (fun k => spec_CleanPath.l0 k (mkB P) (pre.length : Int)) (if (r.any fun b => decide (b = 35) || decide (b = 63)) = true then (⟨#[]⟩ : ByteArray) else res)
 | [], pre, hp => by
  refine Ev.step (fun k => ?_) (by simpa using hres)
  simp only [spec_CleanPath.l0]
  rw [if_neg (by rw [size_mk, hp]; simp)]
 | b :: r, pre, hp => by
  have ih := specClean_hash P hP res hres r (pre ++ [b]) (by rw [hp]; simp)
  rw [len_snoc] at ih
  have hlen : P.length = pre.length + (r.length + 1) := by rw [hp]; simp
  have hb : bt (mkB P) (pre.length : Int) = (b.toNat : Int) := by rw [hp]; exact bt_mid pre b r
  have hlt : (pre.length : Int) < ((mkB P).size : Int) := by rw [size_mk]; omega
  by_cases h1 : b = 35
  ·refine Ev.step (f := fun _ => some (⟨#[]⟩ : ByteArray)) (fun k => ?_) (by simpa [h1] using Ev.now _)
   simp only [spec_CleanPath.l0]
   rw [if_pos hlt, if_pos (by omega), hb, if_pos ((u8_35 b).2 h1)]
  by_cases h2 : b = 63
  ·refine Ev.step (f := fun _ => some (⟨#[]⟩ : ByteArray)) (fun k => ?_) (by simpa [h2] using Ev.now _)
   simp only [spec_CleanPath.l0]
   rw [if_pos hlt, if_pos (by omega), hb, if_neg (fun h => h1 ((u8_35 b).1 h)), if_pos ((u8_63 b).2 h2)]
  refine Ev.step (fun k => ?_) (by simpa [h1, h2] using ih)
  simp only [spec_CleanPath.l0]
  rw [if_pos hlt, if_pos (by omega), hb, if_neg (fun h => h1 ((u8_35 b).1 h)), if_neg (fun h => h2 ((u8_63 b).1 h)), wrap_id (by omega) (by omega)]
theorem indexAny_any (l : List UInt8) : decide (Lib.indexAny l [35, 63] ≥ 0) = (l.any fun b => decide (b = 35) || decide (b = 63)) := by
 induction l with
 | nil => rfl
 | cons b r ih =>
  have hg := Lib.indexAny_ge [35, 63] r
  rw [Lib.indexAny, List.any_cons]
  by_cases h1 : b = 35
  ·simp [h1]
  by_cases h2 : b = 63
  ·simp [h2]
  rw [if_neg (by simp [h1, h2])]
  simp only [h1, h2, decide_false, Bool.or_false, Bool.false_or]
  rw [← ih]
  by_cases hm : Lib.indexAny r [35, 63] = -1
  ·simp [hm]
  ·rw [if_neg (by simpa using hm)]
   exact decide_eq_decide.2 (by omega)
theorem unesc_cut (r : List UInt8) : (strOfNums (unescI (47 :: r).length (47 :: r))).extract 1 (strOfNums (unescI (47 :: r).length (47 :: r))).size = mkB ((strOfNums (unescI (47 :: r).length (47 :: r))).data.toList.drop 1) := by
 have e := unesc_head r
 have e2 : strOfNums (unescI (47 :: r).length (47 :: r)) = mkB (47 :: (strOfNums (unescI r.length r)).data.toList) := by rw [← mk_bl (strOfNums _), bl, e]
 rw [e, e2, extract_mk, size_mk, List.take_of_length_le (by simp)]
theorem seg_bound (r : List UInt8) (h : r.length ≤ 1000) : (splitL 47 ((strOfNums (unescI (47 :: r).length (47 :: r))).data.toList.drop 1)).length ≤ 2000 ∧ (flatS (splitL 47 ((strOfNums (unescI (47 :: r).length (47 :: r))).data.toList.drop 1))).length ≤ 2000 ∧ ((strOfNums (unescI (47 :: r).length (47 :: r))).data.toList.drop 1).length ≤ 2000 := by
 have hz : (strOfNums (unescI (47 :: r).length (47 :: r))).data.toList.length ≤ 1001 := by
  rw [Array.length_toList]; exact Nat.le_trans (unesc_size (47 :: r)) (by simp; omega)
 generalize (strOfNums (unescI (47 :: r).length (47 :: r))).data.toList = L at hz ⊢
 have hf := flatS_split (L.drop 1)
 have hl := flatS_len (splitL 47 (L.drop 1))
 have hd : (L.drop 1).length ≤ 1001 := by rw [List.length_drop]; omega
 rw [hf] at hl ⊢
 simp only [List.length_cons] at hl ⊢
 omega
theorem specCleanPath_is (s : ByteArray) (hs : s.size ≤ 1048576) : Ev (fun k => spec_CleanPath.f k s) (mkB (cleanL (bl s))) := by
 have hj : Ev (fun k => spec_CleanPath.j0 k s true) (mkB []) := Ev.step (f := fun _ => some (⟨#[]⟩ : ByteArray)) (fun k => by simp only [spec_CleanPath.j0, if_true]) (Ev.now _)
 obtain ⟨p, rfl⟩ : ∃ p, s = mkB p := ⟨bl s, (mk_bl s).symm⟩
 rw [bl_mk]
 unfold spec_CleanPath.f cleanL
 rw [size_mk]
 cases p with
 | nil => simpa using hj
 | cons b r =>
  simp only [if_neg (show ¬ ((b :: r).length : Int) = 0 by simp; omega)]
  by_cases hl : (b :: r).length ≤ 200
  ·simp only [if_neg (show ¬ ((b :: r).length : Int) > 200 by omega), if_pos (show (0 : Int) < ((b :: r).length : Int) by simp <;> omega)]
   have hb : bt (mkB (b :: r)) 0 = (b.toNat : Int) := by simpa using bt_mid [] b r
   rw [hb]
   by_cases h47 : b = 47
   ·subst h47
    simp only [if_pos (show (((47 : UInt8).toNat : Nat) : Int) = 47 from rfl)]
    refine (specVisible_is (mkB (47 :: r)) (by rw [size_mk]; omega)).bind ?_
    rw [bl_mk, size_mk, decide_eq_true (show 1 ≤ (47 :: r).length by simp), Bool.and_true]
    cases hv : (47 :: r).all visB
    ·simpa [hv] using hj
    ·have hsb := seg_bound r (by simp at hl; omega)
     simp only [Bool.not_true]
     have hseg := specClean_seg (splitL 47 ((strOfNums (unescI (47 :: r).length (47 :: r))).data.toList.drop 1)) [] [] (by rw [List.nil_append]; omega) (by simp) (by have e0 : (flatS ([] : List (List UInt8))).length = 0 := rfl; omega)
     have hP := specPct_go (47 :: r).length (47 :: r) [] [] (Nat.le_refl _) (by simp at hl ⊢; omega) (by simp)
     have hres : Ev (fun k => (spec_l7percent.f k (mkB (47 :: r))).bind fun t135 => (if 1 ≤ (t135.size : Int) then ((spec_l7split.f k (t135.extract 1 t135.size) 47).bind fun t136 => (spec_CleanPath.l1 k t136 ([] : List ByteArray) 0)) else (none))) (mkB (pathOf (cleanK [] (splitL 47 ((strOfNums (unescI (47 :: r).length (47 :: r))).data.toList.drop 1))))) := by
      refine Ev.bind (a := strOfNums (unescI (47 :: r).length (47 :: r))) (by simpa [spec_l7percent.f] using hP) ?_
      have h1 : 1 ≤ ((strOfNums (unescI (47 :: r).length (47 :: r))).size : Int) := by
       have : (strOfNums (unescI (47 :: r).length (47 :: r))).size = (strOfNums (unescI (47 :: r).length (47 :: r))).data.toList.length := by rw [Array.length_toList]; rfl
       rw [this, unesc_head]; simp; omega
      simp only [if_pos h1, unesc_cut]
      refine (spec7split_is 47 _ (by omega)).bind ?_
      simpa using hseg
     have hh := specClean_hash (47 :: r) (by omega) _ hres (47 :: r) [] rfl
     refine Ev.step (f := fun k => spec_CleanPath.l0 k (mkB (47 :: r)) 0) (fun k => by simp only [spec_CleanPath.j0, Bool.false_eq_true, if_false]) ?_
     cases ha : (47 :: r).any fun b => decide (b = 35) || decide (b = 63)
     ·rw [ha] at hh
      rw [if_pos (by refine ⟨hl, rfl, ?_, ?_⟩ <;> first | trivial | rfl | assumption)]
      simpa using hh
     ·rw [ha] at hh
      rw [if_neg (fun h => by cases h.2.2.2)]
      simpa [mkB] using hh
   ·simp only [if_neg (fun h => h47 ((u8_47 b).1 h))]
    rw [if_neg (fun h => h47 (by simpa using h.2.1))]
    exact hj
  ·simp only [if_pos (show ((b :: r).length : Int) > 200 by omega)]
   rw [if_neg (fun h => hl h.1)]
   exact hj
theorem implCleanPath_is (s : ByteArray) (hs : s.size ≤ 1048576) : Ev (fun k => impl_CleanPath.f k s) (mkB (cleanL (bl s))) := by
 have hj : Ev (fun k => impl_CleanPath.j0 k s true) (mkB []) := Ev.step (f := fun _ => some (⟨#[]⟩ : ByteArray)) (fun k => by simp only [impl_CleanPath.j0, if_true]) (Ev.now _)
 obtain ⟨p, rfl⟩ : ∃ p, s = mkB p := ⟨bl s, (mk_bl s).symm⟩
 rw [bl_mk]
 have hpre : strings_HasPrefix.f (mkB p) (⟨#[47]⟩ : ByteArray) = some (decide (p.head? = some 47)) := by
  unfold strings_HasPrefix.f stringslite_HasPrefix.f
  rw [show (⟨#[47]⟩ : ByteArray) = mkB [47] from rfl, size_mk, size_mk]
  cases p with
  | nil => rfl
  | cons b r =>
   rw [if_pos (by simp; omega), if_pos (by simp), if_pos (by simp; omega), extract_mk, toList_mk, toList_mk]
   simp
   rw [Bool.eq_iff_iff]; simp
 have hca : strings_ContainsAny.f (mkB p) (⟨#[35, 63]⟩ : ByteArray) = some (p.any fun b => decide (b = 35) || decide (b = 63)) := by
  unfold strings_ContainsAny.f strings_IndexAny.f
  rw [if_pos ⟨by rw [size_mk] at *; omega, rfl, by decide⟩, Option.bind_some]
  have e1 : (⟨#[35, 63]⟩ : ByteArray).data.toList = [35, 63] := rfl
  have e2 : (mkB p).data.toList = p := bl_mk p
  rw [e1, e2, indexAny_any]
 unfold impl_CleanPath.f cleanL
 rw [hpre]
 simp only [Option.bind_some, decide_eq_true_eq]
 by_cases h47 : p.head? = some 47
 ·simp only [if_pos h47, size_mk]
  by_cases hl : p.length ≤ 200
  ·simp only [if_neg (show ¬ (p.length : Int) > 200 by omega)]
   refine (implAllVis_is (mkB p) (by rw [size_mk]; omega)).bind ?_
   rw [bl_mk]
   cases hv : p.all visB
   ·simpa [hv] using hj
   ·simp only [if_true, hca, Option.bind_some]
    cases ha : p.any fun b => decide (b = 35) || decide (b = 63)
    ·rw [if_pos (by refine ⟨hl, h47, ?_, ?_⟩ <;> first | trivial | rfl | assumption)]
     obtain ⟨r, rfl⟩ : ∃ r, p = 47 :: r := by
      cases p with
      | nil => cases h47
      | cons b r => simp at h47; subst h47; exact ⟨r, rfl⟩
     have hsb := seg_bound r (by simp at hl; omega)
     have hne := splitL_ne 47 ((strOfNums (unescI (47 :: r).length (47 :: r))).data.toList.drop 1)
     have hseg := implClean_seg (splitL 47 ((strOfNums (unescI (47 :: r).length (47 :: r))).data.toList.drop 1)) hne _ [] [] rfl (by omega) (by simp) (by have e0 : (flatS ([] : List (List UInt8))).length = 0 := rfl; omega)
     rw [← cleanK_last _ [] hne] at hseg
     have hP := implPct_go (47 :: r).length (47 :: r) [] [] (Nat.le_refl _) (by simp at hl ⊢; omega) (by simp)
     refine Ev.step (f := fun k => (impl_unescaped.f k (mkB (47 :: r))).bind fun t180 => (if 1 ≤ (t180.size : Int) then ((strings_Split.f (t180.extract 1 t180.size) (⟨#[47]⟩ : ByteArray)).bind fun t181 => (impl_CleanPath.l0 k ([] : List ByteArray) t181 t181 (t181.length : Int) 0)) else (none))) (fun k => by simp only [impl_CleanPath.j0, Bool.false_eq_true, if_false]) ?_
     refine Ev.bind (a := strOfNums (unescI (47 :: r).length (47 :: r))) (by simpa [impl_unescaped.f] using hP) ?_
     have h1 : 1 ≤ ((strOfNums (unescI (47 :: r).length (47 :: r))).size : Int) := by
      have : (strOfNums (unescI (47 :: r).length (47 :: r))).size = (strOfNums (unescI (47 :: r).length (47 :: r))).data.toList.length := by rw [Array.length_toList]; rfl
      rw [this, unesc_head]; simp; omega
     simp only [if_pos h1, unesc_cut]
     simp only [stringsSplit_is _ 47 (show ((strOfNums (unescI (47 :: r).length (47 :: r))).data.toList.drop 1).length ≤ 1048576 by omega), Option.bind_some, List.length_map]
     simpa using hseg
    ·rw [if_neg (fun h => by cases h.2.2.2)]; exact hj
  ·simp only [if_pos (show (p.length : Int) > 200 by omega)]
   rw [if_neg (fun h => hl h.1)]; exact hj
 ·simp only [if_neg h47]
  rw [if_neg (fun h => h47 h.2.1)]; exact hj
/-! #### Within -/
theorem within_is (n a b : Int) : impl_within.f n a b = some (decide (a ≤ n) && decide (n ≤ b)) := by
 unfold impl_within.f
 by_cases h : a ≤ n <;> simp [h]
/-! #### Cut -/
def cutB (c : UInt8) : List UInt8 → List UInt8 × List UInt8 × Bool
 | [] => ([], [], false)
 | b :: l => if b = c then ([], l, true) else (b :: (cutB c l).1, (cutB c l).2)
theorem cut_is (c : UInt8) : ∀ l : List UInt8, Lib.cut l [c] = cutB c l
 | [] => by simp [Lib.cut, Lib.index, cutB]
 | b :: l => by
  have ih := cut_is c l
  have hb := index_bound l [c]
  unfold Lib.cut at ih ⊢
  by_cases h : b = c
  ·subst h
   have hi : Lib.index (b :: l) [b] = 0 := by simp [Lib.index]
   rw [hi]; simp [cutB]
  ·have hi : Lib.index (b :: l) [c] = if Lib.index l [c] = -1 then -1 else Lib.index l [c] + 1 := by
    have hc : (c == b) = false := by simpa using fun x => h x.symm
    simp only [Lib.index, List.isPrefixOf, hc, Bool.false_and, Bool.false_eq_true, if_false]
    by_cases hm : Lib.index l [c] = -1 <;> simp [hm]
   rw [hi, cutB, if_neg h]
   by_cases hm : Lib.index l [c] = -1
   ·rw [hm] at ih
    rw [if_pos hm]
    rw [if_neg (by omega)] at ih ⊢
    rw [← ih]
   ·rw [if_neg hm]
    rw [if_pos (by omega)] at ih
    rw [if_pos (by omega), ← ih]
    have e : (Lib.index l [c] + 1).toNat = (Lib.index l [c]).toNat + 1 := by omega
    rw [e]
    simp [Nat.add_right_comm]
theorem cutB_app (c : UInt8) : ∀ (pre r : List UInt8), (∀ b ∈ pre, b ≠ c) → cutB c (pre ++ r) = (pre ++ (cutB c r).1, (cutB c r).2)
 | [], r, _ => rfl
 | b :: pre, r, h => by
  have ih := cutB_app c pre r (fun x hx => h x (List.mem_cons_of_mem _ hx))
  rw [List.cons_append, cutB, if_neg (h b (by simp)), ih]; rfl
theorem cutB_len (c : UInt8) : ∀ l : List UInt8, (cutB c l).1.length + (cutB c l).2.1.length ≤ l.length
 | [] => by simp [cutB]
 | b :: l => by
  have ih := cutB_len c l
  unfold cutB; split
  ·simp
  ·simp; omega
/-! #### Upto -/
theorem upto_go (c : UInt8) : ∀ (r pre : List UInt8), (∀ b ∈ pre, b ≠ c) → (pre ++ r).length ≤ 9223372036854775806 → Ev (fun k => spec_l6upto.l0 k (mkB (pre ++ r)) (c.toNat : Int) pre.length) (mkB (cutB c (pre ++ r)).1)
 | [], pre, hp, hl => by
  have e : (cutB c (pre ++ [])).1 = pre ++ [] := by rw [cutB_app c pre [] hp]; simp [cutB]
  rw [e]
  exact Ev.step (f := fun _ => some (mkB (pre ++ []))) (fun k => by simp only [spec_l6upto.l0]; rw [if_neg (by rw [size_mk]; simp)]) (Ev.now _)
 | b :: r, pre, hp, hl => by
  simp at hl
  by_cases h : b = c
  ·subst h
   have e : (cutB b (pre ++ b :: r)).1 = pre := by rw [cutB_app b pre _ hp]; simp [cutB]
   rw [e]
   refine Ev.step (f := fun _ => some (mkB pre)) (fun k => ?_) (Ev.now _)
   simp only [spec_l6upto.l0]
   rw [if_pos (size_lt_mid ..), if_pos (by omega), bt_mid, if_pos rfl, if_pos (by have := size_lt_mid pre b r; omega), extract_mk]
   simp
  ·have ih := upto_go c r (pre ++ [b]) (by intro x hx; rcases List.mem_append.1 hx with h' | h'; exact hp x h'; simp at h'; subst h'; exact h) (by simp; omega)
   rw [← app_mid, len_snoc] at ih
   refine Ev.step (fun k => ?_) ih
   simp only [spec_l6upto.l0]
   rw [if_pos (size_lt_mid ..), if_pos (by omega), bt_mid, if_neg (fun e => h ((u8_nat b c).1 e)), wrap_id (by omega) (by omega)]
theorem upto_is (c : UInt8) (s : ByteArray) (h : s.size ≤ 9223372036854775806) : Ev (fun k => spec_l6upto.f k s (c.toNat : Int)) (mkB (cutB c (bl s)).1) := by
 have := upto_go c (bl s) [] (by simp) (by simpa [size_bl] using h)
 simpa [mk_bl, spec_l6upto.f] using this
/-! #### UrlOk -/
theorem hostLit_is (b : UInt8) : impl_isHost_1.f (b.toNat : Int) = some (hostB b || decide (b = 46)) := by
 have key : ∀ n : Fin 256, impl_isHost_1.f ((UInt8.ofNat n.val).toNat : Int) = some (hostB (UInt8.ofNat n.val) || decide (UInt8.ofNat n.val = 46)) := by decide +kernel
 have := key ⟨b.toNat, b.toNat_lt⟩
 simpa using this
theorem slIndex_go (S : List (List UInt8)) (hS : S.length ≤ 1000000) : ∀ (r pre : List (List UInt8)), S = pre ++ r → ∃ v : Int, Ev (fun k => slices_Index_string_string.l0 k (S.map mkB) (⟨#[]⟩ : ByteArray) (S.length : Int) (pre.length : Int)) v ∧ decide (v ≥ 0) = r.contains []
 | [], pre, hp => ⟨-1, Ev.step (f := fun _ => some (-1)) (fun k => by rw [slices_Index_string_string.l0, if_neg (by rw [hp]; simp)]) (Ev.now _), by decide⟩
 | x :: r, pre, hp => by
  have hlen : S.length = pre.length + (r.length + 1) := by rw [hp]; simp
  have hrd : rdOf ByteArray.empty (S.map mkB) (pre.length : Int) = mkB x := by rw [hp]; exact rdOf_mid pre x r
  have hlt : (pre.length : Int) < (S.length : Int) := by omega
  have hlt2 : (pre.length : Int) < ((S.map mkB).length : Int) := by rw [List.length_map]; exact hlt
  have e0 : (⟨#[]⟩ : ByteArray).toList = [] := toList_mk []
  by_cases hx : x = []
  ·refine ⟨(pre.length : Int), Ev.step (f := fun _ => some (pre.length : Int)) (fun k => ?_) (Ev.now _), ?_⟩
   ·rw [slices_Index_string_string.l0, if_pos hlt, if_pos (by omega), if_pos hlt2, hrd, toList_mk, e0, if_pos hx.symm]
   ·rw [decide_eq_true (by omega), hx]; simp
  ·obtain ⟨v, h1, h2⟩ := slIndex_go S hS r (pre ++ [x]) (by rw [hp]; simp)
   rw [len_snoc] at h1
   refine ⟨v, Ev.step (fun k => ?_) h1, ?_⟩
   ·rw [slices_Index_string_string.l0, if_pos hlt, if_pos (by omega), if_pos hlt2, hrd, toList_mk, e0, if_neg (fun h => hx h.symm), wrap_id (by omega) (by omega)]
   ·rw [h2, List.contains_cons]
    have : (([] : List UInt8) == x) = false := beq_eq_false_iff_ne.2 (fun h => hx h.symm)
    rw [this, Bool.false_or]
theorem implHost_is (l : List UInt8) (hl : l.length ≤ 1048576) : Ev (fun k => impl_isHost.f k (mkB l)) (hostL l) := by
 have hj : Ev (fun k => impl_isHost.j0 k (mkB l) true) false := Ev.step (f := fun _ => some false) (fun k => by rw [impl_isHost.j0, if_pos rfl]) (Ev.now _)
 unfold impl_isHost.f
 rw [hostL_is, within_is, size_mk]
 simp only [Option.bind_some]
 by_cases hb : 1 ≤ l.length ∧ l.length ≤ 60
 ·have d : (decide ((1 : Int) ≤ (l.length : Int)) && decide ((l.length : Int) ≤ 60)) = true := by rw [decide_eq_true (show (1 : Int) ≤ (l.length : Int) by omega), decide_eq_true (show (l.length : Int) ≤ 60 by omega)]; rfl
  simp only [d, if_true, decide_eq_true hb.1, decide_eq_true hb.2, Bool.true_and]
  have ha := all_ev impl_all__impl_isHost_1.l0 (fun _ x => impl_isHost_1.f x) (fun b => hostB b || decide (b = 46)) (fun b => Ev.const (hostLit_is b)) (fun k s i => by rw [impl_all__impl_isHost_1.l0]) (mkB l) (by rw [size_mk]; omega)
  rw [bl_mk] at ha
  refine Ev.bind (a := l.all fun b => hostB b || decide (b = 46)) (by simpa [impl_all__impl_isHost_1.f] using ha) ?_
  cases hall : l.all fun b => hostB b || decide (b = 46)
  ·simpa using hj
  ·simp only [Bool.not_true, Bool.true_and]
   have hsl := splitL_len 46 l
   obtain ⟨v, h1, h2⟩ := slIndex_go (splitL 46 l) (by omega) (splitL 46 l) [] rfl
   refine Ev.step (f := fun k => (slices_Contains_string_string.f k ((splitL 46 l).map mkB) (⟨#[]⟩ : ByteArray)).bind fun t => some (!t)) (fun k => by rw [impl_isHost.j0, if_neg Bool.false_ne_true, stringsSplit_is l 46 hl, Option.bind_some]) ?_
   have hc : Ev (fun k => slices_Contains_string_string.f k ((splitL 46 l).map mkB) (⟨#[]⟩ : ByteArray)) ((splitL 46 l).contains []) := by
    unfold slices_Contains_string_string.f slices_Index_string_string.f
    rw [List.length_map]
    refine h1.bind ?_
    rw [h2]; exact Ev.now _
   exact hc.bind (Ev.now _)
 ·have d : (decide ((1 : Int) ≤ (l.length : Int)) && decide ((l.length : Int) ≤ 60)) = false := by
   by_cases h1 : 1 ≤ l.length
   ·rw [decide_eq_false (show ¬ (l.length : Int) ≤ 60 by omega), Bool.and_false]
   ·rw [decide_eq_false (show ¬ (1 : Int) ≤ (l.length : Int) by omega), Bool.false_and]
  have d2 : (decide (1 ≤ l.length) && decide (l.length ≤ 60)) = false := by
   by_cases h1 : 1 ≤ l.length
   ·rw [decide_eq_false (show ¬ l.length ≤ 60 by omega), Bool.and_false]
   ·rw [decide_eq_false h1, Bool.false_and]
  simp only [d, d2, Bool.false_eq_true, if_false, Bool.false_and]
  exact hj
theorem cutB_whole (c : UInt8) : ∀ l : List UInt8, decide ((cutB c l).1 = l) = !l.contains c
 | [] => rfl
 | b :: r => by
  have ih := cutB_whole c r
  by_cases h : b = c
  ·subst h; simp [cutB]
  ·have hc : (c == b) = false := beq_eq_false_iff_ne.2 (fun e => h e.symm)
   rw [cutB, if_neg h, List.contains_cons, hc, Bool.false_or, ← ih]
   exact decide_eq_decide.2 (by simp)
theorem index_has (c : UInt8) : ∀ l : List UInt8, decide (Lib.index l [c] ≥ 0) = l.contains c
 | [] => by simp [Lib.index]
 | b :: r => by
  have ih := index_has c r
  have hb := index_bound r [c]
  by_cases h : b = c
  ·subst h; simp [Lib.index]
  ·have hc : (c == b) = false := beq_eq_false_iff_ne.2 (fun e => h e.symm)
   rw [List.contains_cons, hc, Bool.false_or, ← ih]
   simp only [Lib.index, List.isPrefixOf, hc, Bool.false_and, Bool.false_eq_true, if_false]
   by_cases hm : Lib.index r [c] = -1
   ·simp [hm]
   ·rw [if_neg (by simpa using hm)]; exact decide_eq_decide.2 (by omega)
def tailL (h : List UInt8) (p : Nat) (path q : List UInt8) (hq : Bool) : Bool := q.all visB && !q.contains 35 && decide ((urlL h p path q hq).length ≤ 200)
def urlOkL (h : List UInt8) (p : Int) (path q : List UInt8) (hq : Bool) : Bool :=
 hostL h && (decide (1 ≤ p) && decide (p ≤ 65535)) && (decide (path ≠ []) && decide (cleanL path = path)) && (hq || decide (q = [])) && tailL h p.toNat path q hq
theorem upto35 (q : List UInt8) (hq : q.length ≤ 1048576) : Ev (fun k => spec_l6upto.f k (mkB q) 35) (mkB (cutB 35 q).1) := by
 have := upto_is 35 (mkB q) (by rw [size_mk]; omega)
 rw [bl_mk] at this
 exact this
theorem specTail_is (h : List UInt8) (p : Nat) (path q : List UInt8) (hq : Bool) (hp : p ≤ 65535) (h1 : h.length ≤ 1048576) (h2 : path.length ≤ 1048576) (h3 : q.length ≤ 1048576) (hok : hq = true ∨ q = []) :
  Ev (fun k => spec_UrlOk.j0 k false (mkB h) (p : Int) (mkB path) (mkB q) hq) (tailL h p path q hq) := by
 have ht : Ev (fun k => (spec_l7text.f k (mkB h) (p : Int) (mkB path) (mkB q) hq).bind fun t => some (decide ((t.size : Int) ≤ 200))) (decide ((urlL h p path q hq).length ≤ 200)) := by
  refine (specText_is h p path q hq (by omega) (by omega) (by omega) (by omega)).bind ?_
  rw [size_mk, show decide (((urlL h p path q hq).length : Int) ≤ 200) = decide ((urlL h p path q hq).length ≤ 200) from decide_eq_decide.2 (by omega)]
  exact Ev.now _
 have hu : Ev (fun k => (spec_l6upto.f k (mkB q) 35).bind fun t => (if t.toList = (mkB q).toList then ((spec_l7text.f k (mkB h) (p : Int) (mkB path) (mkB q) hq).bind fun t179 => (some (decide ((t179.size : Int) ≤ 200)))) else (some false))) (!q.contains 35 && decide ((urlL h p path q hq).length ≤ 200)) := by
  refine (upto35 q h3).bind ?_
  rw [toList_mk, toList_mk, ← cutB_whole 35 q]
  by_cases hc : (cutB 35 q).1 = q
  ·simp only [if_pos hc, decide_eq_true hc, Bool.true_and]; exact ht
  ·simp only [if_neg hc, decide_eq_false hc, Bool.false_and]; exact Ev.now _
 by_cases hbig : q.length > 200
 ·have hq1 : hq = true := hok.resolve_right (fun e => by rw [e] at hbig; simp at hbig)
  have hlen : ¬ (urlL h p path q hq).length ≤ 200 := by
   rw [hq1]; unfold urlL queryL; rw [if_pos rfl]; simp only [List.length_append, List.length_cons]; omega
  have e : tailL h p path q hq = false := by unfold tailL; rw [decide_eq_false hlen, Bool.and_false]
  rw [e]
  exact Ev.step (f := fun _ => some false) (fun k => by rw [spec_UrlOk.j0, if_neg Bool.false_ne_true, if_pos (by rw [size_mk]; omega)]) (Ev.now _)
 ·by_cases h0 : q = []
  ·have e : tailL h p path q hq = (!q.contains 35 && decide ((urlL h p path q hq).length ≤ 200)) := by unfold tailL; rw [h0]; rfl
   rw [e]
   exact Ev.step (fun k => by rw [spec_UrlOk.j0, if_neg Bool.false_ne_true, if_neg (by rw [size_mk]; omega), if_pos (by rw [toList_mk]; exact h0)]) hu
  ·refine Ev.step (f := fun k => (spec_l6visible.f k (mkB q)).bind fun t180 => (if t180 = true then ((spec_l6upto.f k (mkB q) 35).bind fun t => (if t.toList = (mkB q).toList then ((spec_l7text.f k (mkB h) (p : Int) (mkB path) (mkB q) hq).bind fun t179 => (some (decide ((t179.size : Int) ≤ 200)))) else (some false))) else (some false))) (fun k => by rw [spec_UrlOk.j0, if_neg Bool.false_ne_true, if_neg (by rw [size_mk]; omega), if_neg (by rw [toList_mk]; exact h0)]) ?_
   refine (specVisible_is (mkB q) (by rw [size_mk]; omega)).bind ?_
   have hl1 : 1 ≤ q.length := List.length_pos_iff.2 h0
   rw [bl_mk, size_mk, decide_eq_true hl1, Bool.and_true]
   unfold tailL
   cases hv : q.all visB
   ·simpa using Ev.now false
   ·simpa using hu
theorem implTail_is (h : List UInt8) (p : Nat) (path q : List UInt8) (hq : Bool) (hp : p ≤ 65535) (h1 : h.length ≤ 1048576) (h2 : path.length ≤ 1048576) (h3 : q.length ≤ 1048576) :
  Ev (fun k => impl_UrlOk.j0 k false (mkB h) (p : Int) (mkB path) (mkB q) hq) ((hq || decide (q = [])) && tailL h p path q hq) := by
 have hx : (impl_urlText.f (mkB h) (p : Int) (mkB path) (mkB q) hq).bind (fun t => some (decide ((t.size : Int) ≤ 200))) = some (decide ((urlL h p path q hq).length ≤ 200)) := by
  rw [implText_is h p path q hq (by omega) (by omega) (by omega) (by omega), Option.bind_some, size_mk, show decide (((urlL h p path q hq).length : Int) ≤ 200) = decide ((urlL h p path q hq).length ≤ 200) from decide_eq_decide.2 (by omega)]
 have hc : strings_Contains.f (mkB q) (⟨#[35]⟩ : ByteArray) = some (q.contains 35) := by
  unfold strings_Contains.f strings_Index.f
  rw [if_pos (by rw [size_mk]; omega), Option.bind_some]
  have e1 : (⟨#[35]⟩ : ByteArray).data.toList = [35] := rfl
  have e2 : (mkB q).data.toList = q := bl_mk q
  rw [e1, e2, index_has]
 refine Ev.step (f := fun k => (impl_all__impl_isVisible.f k (mkB q)).bind fun t256 => (if t256 = true then (if q.contains 35 = true then (some false) else (if hq = true then some (decide ((urlL h p path q hq).length ≤ 200)) else (if q = [] then some (decide ((urlL h p path q hq).length ≤ 200)) else (some false)))) else (some false))) (fun k => ?_) ?_
 ·rw [impl_UrlOk.j0, if_neg Bool.false_ne_true]
  simp only [hc, hx, Option.bind_some, toList_mk]
 ·refine (implAllVis_is (mkB q) (by rw [size_mk]; omega)).bind ?_
  rw [bl_mk]
  unfold tailL
  cases hv : q.all visB
  ·simpa using Ev.now false
  ·simp only [if_true, Bool.true_and]
   cases hcc : q.contains 35
   ·simp only [Bool.false_eq_true, if_false, Bool.not_false, Bool.true_and]
    cases hq
    ·by_cases h0 : q = []
     ·simp only [Bool.false_eq_true, if_false, if_pos h0, decide_eq_true h0, Bool.false_or, Bool.true_and]; exact Ev.now _
     ·simp only [Bool.false_eq_true, if_false, if_neg h0, decide_eq_false h0, Bool.false_or, Bool.false_and]; exact Ev.now _
    ·simp only [if_true, Bool.true_or, Bool.true_and]; exact Ev.now _
   ·simp only [if_true, Bool.not_true, Bool.false_and, Bool.and_false]; exact Ev.now _
theorem specUrlOk_is (h : List UInt8) (p : Int) (path q : List UInt8) (hq : Bool) (h1 : h.length ≤ 1048576) (h2 : path.length ≤ 1048576) (h3 : q.length ≤ 1048576) :
  Ev (fun k => spec_UrlOk.f k (mkB h) p (mkB path) (mkB q) hq) (urlOkL h p path q hq) := by
 have hj : Ev (fun k => spec_UrlOk.j0 k true (mkB h) p (mkB path) (mkB q) hq) false := Ev.step (f := fun _ => some false) (fun k => by rw [spec_UrlOk.j0, if_pos rfl]) (Ev.now _)
 unfold spec_UrlOk.f urlOkL
 have hh := specHost_is (mkB h) (by rw [size_mk]; exact h1)
 rw [bl_mk] at hh
 refine hh.bind ?_
 cases hhv : hostL h
 ·simpa using hj
 simp only [if_true, Bool.true_and]
 by_cases p1 : p < 1
 ·simp only [if_pos p1, decide_eq_false (show ¬ 1 ≤ p by omega), Bool.false_and]; exact hj
 by_cases p2 : p > 65535
 ·simp only [if_neg p1, if_pos p2, decide_eq_false (show ¬ p ≤ 65535 by omega), Bool.and_false, Bool.false_and]; exact hj
 obtain ⟨n, rfl⟩ : ∃ n : Nat, p = n := ⟨p.toNat, by omega⟩
 simp only [if_neg p1, if_neg p2, decide_eq_true (show 1 ≤ (n : Int) by omega), decide_eq_true (show (n : Int) ≤ 65535 by omega), Bool.and_self, Bool.true_and, toList_mk, Int.toNat_natCast]
 by_cases h0 : path = []
 ·simp only [if_pos h0, decide_eq_false (show ¬ path ≠ [] from fun x => x h0), Bool.false_and]; exact hj
 simp only [if_neg h0, decide_eq_true (show path ≠ [] from h0), Bool.true_and]
 have hc := specCleanPath_is (mkB path) (by rw [size_mk]; exact h2)
 rw [bl_mk] at hc
 refine hc.bind ?_
 rw [toList_mk]
 by_cases he : cleanL path = path
 ·simp only [if_pos he, decide_eq_true he, Bool.true_and]
  cases hq
  ·simp only [Bool.false_eq_true, if_false, Bool.false_or]
   by_cases hq0 : q = []
   ·have e : (q != ([] : List UInt8)) = false := by rw [hq0]; rfl
    simp only [e, decide_eq_true hq0, Bool.true_and]
    exact specTail_is h n path q false (by omega) h1 h2 h3 (.inr hq0)
   ·have e : (q != ([] : List UInt8)) = true := bne_iff_ne.2 hq0
    simp only [e, decide_eq_false hq0, Bool.false_and]
    exact hj
  ·simp only [if_true, Bool.true_or, Bool.true_and]
   exact specTail_is h n path q true (by omega) h1 h2 h3 (.inl rfl)
 ·simp only [if_neg he, decide_eq_false he, Bool.false_and]; exact hj
theorem implUrlOk_is (h : List UInt8) (p : Int) (path q : List UInt8) (hq : Bool) (h1 : h.length ≤ 1048576) (h2 : path.length ≤ 1048576) (h3 : q.length ≤ 1048576) :
  Ev (fun k => impl_UrlOk.f k (mkB h) p (mkB path) (mkB q) hq) (urlOkL h p path q hq) := by
 have hj : Ev (fun k => impl_UrlOk.j0 k true (mkB h) p (mkB path) (mkB q) hq) false := Ev.step (f := fun _ => some false) (fun k => by rw [impl_UrlOk.j0, if_pos rfl]) (Ev.now _)
 unfold impl_UrlOk.f urlOkL
 refine (implHost_is h h1).bind ?_
 cases hhv : hostL h
 ·simpa using hj
 simp only [if_true, Bool.true_and, within_is, Option.bind_some]
 by_cases hp : 1 ≤ p ∧ p ≤ 65535
 ·obtain ⟨n, rfl⟩ : ∃ n : Nat, p = n := ⟨p.toNat, by omega⟩
  simp only [decide_eq_true hp.1, decide_eq_true hp.2, Bool.and_self, if_true, Bool.true_and, toList_mk, Int.toNat_natCast]
  by_cases h0 : path = []
  ·simp only [if_pos h0, decide_eq_false (show ¬ path ≠ [] from fun x => x h0), Bool.false_and]; exact hj
  simp only [if_neg h0, decide_eq_true (show path ≠ [] from h0), Bool.true_and]
  have hc := implCleanPath_is (mkB path) (by rw [size_mk]; exact h2)
  rw [bl_mk] at hc
  refine hc.bind ?_
  rw [toList_mk]
  by_cases he : cleanL path = path
  ·have e : (cleanL path != path) = false := by rw [he]; simp
   simp only [e, decide_eq_true he, Bool.true_and]
   exact implTail_is h n path q hq (by omega) h1 h2 h3
  ·have e : (cleanL path != path) = true := bne_iff_ne.2 he
   simp only [e, decide_eq_false he, Bool.false_and]; exact hj
 ·have d : (decide (1 ≤ p) && decide (p ≤ 65535)) = false := by
   by_cases h1 : 1 ≤ p
   ·rw [decide_eq_false (show ¬ p ≤ 65535 by omega), Bool.and_false]
   ·rw [decide_eq_false h1, Bool.false_and]
  simp only [d, Bool.false_eq_true, if_false, Bool.false_and]; exact hj
/-! #### UrlCut -/
-- a URL's parts behind 'http://'
def sqB (b : UInt8) : Bool := [47, 63].contains b
def authL (r : List UInt8) : List UInt8 := r.takeWhile fun b => !sqB b
def behL (r : List UInt8) : List UInt8 := r.dropWhile fun b => !sqB b
theorem auth_beh (r : List UInt8) : authL r ++ behL r = r := List.takeWhile_append_dropWhile
theorem auth_no : ∀ (r : List UInt8), ∀ b ∈ authL r, b ≠ 47 ∧ b ≠ 63
 | [], b, h => by simp [authL] at h
 | x :: r, b, h => by
  unfold authL at h
  rw [List.takeWhile_cons] at h
  by_cases hx : sqB x = true
  ·simp [hx] at h
  ·simp only [Bool.not_eq_true] at hx
   simp only [hx, Bool.not_false, if_true, List.mem_cons] at h
   rcases h with rfl | h
   ·constructor
    ·rintro rfl; cases hx
    ·rintro rfl; cases hx
   ·exact auth_no r b h
theorem beh_head : ∀ r : List UInt8, behL r = [] ∨ (∃ t, behL r = 47 :: t) ∨ ∃ t, behL r = 63 :: t
 | [] => .inl rfl
 | x :: r => by
  unfold behL
  rw [List.dropWhile_cons]
  by_cases hx : sqB x = true
  ·simp only [hx, Bool.not_true, Bool.false_eq_true, if_false]
   simp [sqB] at hx
   rcases hx with rfl | rfl
   ·exact .inr (.inl ⟨r, rfl⟩)
   ·exact .inr (.inr ⟨r, rfl⟩)
  ·simp only [Bool.not_eq_true] at hx
   simp only [hx, Bool.not_false, if_true]
   exact beh_head r
theorem indexAny_sq : ∀ r : List UInt8, Lib.indexAny r [47, 63] = if behL r = [] then -1 else ((authL r).length : Int)
 | [] => rfl
 | x :: r => by
  have ih := indexAny_sq r
  unfold behL authL at ih ⊢
  rw [List.dropWhile_cons, List.takeWhile_cons, Lib.indexAny]
  by_cases hx : sqB x = true
  ·have hx2 := hx
   unfold sqB at hx2
   simp only [hx, hx2, Bool.not_true, Bool.false_eq_true, if_false, if_true]
   simp
  ·simp only [Bool.not_eq_true] at hx
   have hx2 := hx
   unfold sqB at hx2
   simp only [hx, hx2, Bool.not_false, Bool.false_eq_true, if_false, if_true, ih]
   by_cases hb : (List.dropWhile (fun b => !sqB b) r) = []
   ·simp [hb]
   ·simp only [if_neg hb]
    rw [if_neg (by simp <;> omega)]
    simp
theorem cutB_false (c : UInt8) : ∀ l : List UInt8, (cutB c l).2.2 = false → (cutB c l).1 = l ∧ (cutB c l).2.1 = []
 | [], _ => ⟨rfl, rfl⟩
 | x :: l, h => by
  by_cases hx : x = c
  ·rw [cutB, if_pos hx] at h; cases h
  ·rw [cutB, if_neg hx] at h ⊢
   obtain ⟨h1, h2⟩ := cutB_false c l h
   exact ⟨by rw [h1], h2⟩
theorem cutB_true (c : UInt8) : ∀ l : List UInt8, (cutB c l).2.2 = true → l = (cutB c l).1 ++ c :: (cutB c l).2.1
 | [], h => by cases h
 | x :: l, h => by
  by_cases hx : x = c
  ·rw [cutB, if_pos hx]; simp [hx]
  ·rw [cutB, if_neg hx] at h ⊢
   have := cutB_true c l h
   simp [← this]
theorem cutB_1len (c : UInt8) (l : List UInt8) : (cutB c l).1.length < l.length ↔ (cutB c l).2.2 = true := by
 cases h : (cutB c l).2.2
 ·have := (cutB_false c l h).1; rw [this]; simp
 ·have := cutB_true c l h
  have e := congrArg List.length this
  simp at e; simp; omega
theorem cutB_drop (c : UInt8) (l : List UInt8) (h : (cutB c l).2.2 = true) : l.drop ((cutB c l).1.length + 1) = (cutB c l).2.1 := by
 have := cutB_true c l h
 generalize (cutB c l).1 = a at this ⊢
 generalize (cutB c l).2.1 = b at this ⊢
 subst this
 simp
/-- The reference's parts: up to '?', then up to '/'. -/
theorem front_is (r : List UInt8) : (cutB 63 r).1 = authL r ++ (cutB 63 (behL r)).1 ∧ (cutB 63 r).2 = (cutB 63 (behL r)).2 := by
 have := cutB_app 63 (authL r) (behL r) (fun b hb => (auth_no r b hb).2)
 rw [auth_beh] at this
 rw [this]
 exact ⟨rfl, rfl⟩
theorem auth_is (r : List UInt8) : (cutB 47 (authL r ++ (cutB 63 (behL r)).1)).1 = authL r := by
 rw [cutB_app 47 (authL r) _ (fun b hb => (auth_no r b hb).1)]
 rcases beh_head r with h | ⟨t, h⟩ | ⟨t, h⟩
 ·rw [h]; simp [cutB]
 ·rw [h]; simp [cutB]
 ·rw [h]; simp [cutB]
/-! #### UrlBase -/
abbrev UrlR := ByteArray × Int × ByteArray × ByteArray × Bool × Bool
def noUrl : UrlR := ((⟨#[]⟩ : ByteArray), 0, (⟨#[]⟩ : ByteArray), (⟨#[]⟩ : ByteArray), false, false)
theorem cleanL_len (p : List UInt8) : (cleanL p).length ≤ 10000 := by
 unfold cleanL
 split
 ·rename_i h
  obtain ⟨h1, h2, _, _⟩ := h
  cases p with
  | nil => cases h2
  | cons b r =>
   simp at h2; subst h2
   have hb := seg_bound r (by simp at h1; omega)
   have hf := cleanK_flat (splitL 47 ((strOfNums (unescI (47 :: r).length (47 :: r))).data.toList.drop 1)) []
   generalize cleanK [] (splitL 47 ((strOfNums (unescI (47 :: r).length (47 :: r))).data.toList.drop 1)) = K at hf ⊢
   have e0 : (flatS ([] : List (List UInt8))).length = 0 := rfl
   unfold pathOf
   split
   ·simp
   ·omega
 ·simp
theorem cutB_lens (c : UInt8) (l : List UInt8) : (cutB c l).1.length ≤ l.length ∧ (cutB c l).2.1.length ≤ l.length := by
 have := cutB_len c l; omega
theorem part_lens (r : List UInt8) : (authL r).length ≤ r.length ∧ (behL r).length ≤ r.length := by
 have := congrArg List.length (auth_beh r)
 rw [List.length_append] at this; omega
theorem stringsCut_is (c : UInt8) (l : List UInt8) (h : l.length ≤ 1048576) : strings_Cut.f (mkB l) (⟨#[c]⟩ : ByteArray) = some (mkB (cutB c l).1, mkB (cutB c l).2.1, (cutB c l).2.2) := by
 unfold strings_Cut.f
 rw [if_pos (by rw [size_mk]; omega), show (⟨#[c]⟩ : ByteArray).data.toList = [c] from rfl, show (mkB l).data.toList = l from bl_mk l, cut_is]
 rfl
theorem take_mk (l : List UInt8) (n : Nat) : (mkB l).extract 0 n = mkB (l.take n) := by rw [extract_mk]; simp
theorem drop_mk (l : List UInt8) (n : Nat) : (mkB l).extract n (mkB l).size = mkB (l.drop n) := by rw [extract_mk, size_mk, List.take_of_length_le (by simp)]
theorem implReadPath_is (b : List UInt8) (hb : b.length ≤ 1048576) : impl_readPath.f (mkB b) = some ((⟨#[]⟩ : ByteArray), 0, mkB (cutB 63 b).1, mkB (cutB 63 b).2.1, (cutB 63 b).2.2) := by
 unfold impl_readPath.f
 rw [stringsCut_is 63 b hb]; rfl
/-! #### ReadDec -/
def isDig (c : UInt8) : Bool := decide (48 ≤ c.toNat) && decide (c.toNat ≤ 57)
def dvalF (acc : Nat) (l : List UInt8) : Nat := l.foldl (fun a c => a * 10 + (c.toNat - 48)) acc
def dval (l : List UInt8) : Nat := dvalF 0 l
theorem dvalF_append (acc : Nat) (l m : List UInt8) : dvalF acc (l ++ m) = dvalF (dvalF acc l) m := by simp [dvalF]
theorem digit_toNat (d : Nat) (h : d < 10) : (UInt8.ofNat (48 + d)).toNat = 48 + d := by simp; omega
theorem dval_dec (n : Nat) : dval (Lib.decDigits n) = n ∧ (Lib.decDigits n).all isDig = true ∧ Lib.decDigits n ≠ [] := by
 induction n using Nat.strongRecOn with
 | _ n ih =>
  by_cases h : n < 10
  ·rw [Lib.decDigits, dif_pos h]
   refine ⟨?_, ?_, by simp⟩
   ·simp only [dval, dvalF, List.foldl_cons, List.foldl_nil, digit_toNat n h]; omega
   ·simp only [List.all_cons, List.all_nil, isDig, digit_toNat n h]; simp; omega
  ·obtain ⟨h1, h2, h3⟩ := ih (n / 10) (by omega)
   rw [Lib.decDigits, dif_neg h]
   refine ⟨?_, ?_, by simp⟩
   ·rw [dval, dvalF_append, ← dval, h1]
    simp only [dvalF, List.foldl_cons, List.foldl_nil, digit_toNat (n % 10) (by omega)]; omega
   ·rw [List.all_append, h2]
    simp only [List.all_cons, List.all_nil, isDig, digit_toNat (n % 10) (show n % 10 < 10 by omega)]; simp; omega
theorem dvalF_lt : ∀ (l : List UInt8) (acc m : Nat), l.all isDig = true → acc < 10 ^ m → dvalF acc l < 10 ^ (m + l.length)
 | [], acc, m, _, h => by simpa [dvalF] using h
 | c :: r, acc, m, ha, h => by
  simp only [List.all_cons, Bool.and_eq_true, isDig, decide_eq_true_eq] at ha
  have := dvalF_lt r (acc * 10 + (c.toNat - 48)) (m + 1) ha.2 (by rw [Nat.pow_succ]; omega)
  rw [List.length_cons, show m + (r.length + 1) = m + 1 + r.length by omega]
  exact this
theorem dval_lt15 (l : List UInt8) (hd : l.all isDig = true) (hl : l.length ≤ 15) : dval l ≤ 999999999999999 := by
 have h1 := dvalF_lt l 0 0 hd (by decide)
 have h2 : 10 ^ (0 + l.length) ≤ 10 ^ 15 := Nat.pow_le_pow_right (by decide) (by omega)
 have h3 : (10 : Nat) ^ 15 = 1000000000000000 := by decide
 unfold dval
 omega
/-- The number of a text, if it is written just so. -/
def rdec (l : List UInt8) : Int × Bool := if Lib.decDigits (dval l) = l ∧ l.length ≤ 15 then ((dval l : Int), true) else (0, false)
theorem rdec_dec (n : Nat) (h : n ≤ 999999999999999) : rdec (Lib.decDigits n) = ((n : Int), true) := by
 unfold rdec
 rw [(dval_dec n).1, if_pos ⟨rfl, by rw [Lib.decDigits_length]; exact nDigits_le15 n h⟩]
theorem l1digit_dig (c : UInt8) : spec_l1digit.f (c.toNat : Int) = some (isDig c) := by
 have : c.toNat < 256 := c.toNat_lt
 unfold spec_l1digit.f isDig
 by_cases h1 : 48 ≤ c.toNat
 ·rw [if_pos (by omega), decide_eq_true h1, Bool.true_and]; congr 1; exact decide_eq_decide.2 (by omega)
 ·rw [if_neg (by omega), decide_eq_false h1, Bool.false_and]
theorem specReadDec_go : ∀ (r pre : List UInt8) (acc : Nat), acc < 10 ^ pre.length → (pre ++ r).length ≤ 15 → r.all isDig = true →
  Ev (fun k => spec_ReadDec.l0 k (mkB (pre ++ r)) (acc : Int) pre.length) (if Lib.decDigits (dvalF acc r) = pre ++ r then ((dvalF acc r : Int), true) else (0, false))
 | [], pre, acc, ha, hl, _ => by
  have h15 : (10 : Nat) ^ pre.length ≤ 10 ^ 15 := Nat.pow_le_pow_right (by decide) (by simpa using hl)
  have h3 : (10 : Nat) ^ 15 = 1000000000000000 := by decide
  have hd := (specDec_is acc (by omega)).bind (f := fun _ (t : ByteArray) => if t.toList = (mkB (pre ++ [])).toList then some ((acc : Int), true) else some ((0 : Int), false)) (r := if Lib.decDigits acc = pre ++ [] then ((acc : Int), true) else ((0 : Int), false)) (by
   simp only [toList_mk]
   split <;> exact Ev.now _)
  refine Ev.step (fun k => ?_) hd
  simp only [spec_ReadDec.l0]
  rw [if_neg (by rw [size_mk]; simp)]
 | c :: r, pre, acc, ha, hl, hd => by
  simp only [List.all_cons, Bool.and_eq_true] at hd
  have hc : 48 ≤ c.toNat ∧ c.toNat ≤ 57 := by have := hd.1; simpa [isDig] using this
  have hl' : pre.length < 15 := by simp at hl; omega
  have h15 : (10 : Nat) ^ pre.length ≤ 10 ^ 14 := Nat.pow_le_pow_right (by decide) (by omega)
  have h3 : (10 : Nat) ^ 14 = 100000000000000 := by decide
  have ih := specReadDec_go r (pre ++ [c]) (acc * 10 + (c.toNat - 48)) (by rw [List.length_append, List.length_singleton, Nat.pow_succ]; omega) (by rw [← app_mid]; exact hl) hd.2
  rw [← app_mid, len_snoc] at ih
  have e : dvalF acc (c :: r) = dvalF (acc * 10 + (c.toNat - 48)) r := rfl
  rw [e]
  refine Ev.step (fun k => ?_) ih
  simp only [spec_ReadDec.l0]
  rw [if_pos (size_lt_mid ..), if_pos (by omega), bt_mid, l1digit_dig, hd.1]
  simp only [Option.bind_some, if_true]
  rw [wrap_id (a := (acc : Int) * 10) (by omega) (by omega), wrap_id (by omega) (by omega), wrap_id (a := (pre.length : Int) + 1) (by omega) (by omega)]
  congr 1
  omega
theorem specReadDec_bad : ∀ (r pre : List UInt8) (acc : Int), (pre ++ r).length ≤ 15 → r.all isDig = false → Ev (fun k => spec_ReadDec.l0 k (mkB (pre ++ r)) acc pre.length) ((0 : Int), false)
 | [], pre, acc, _, hd => by simp at hd
 | c :: r, pre, acc, hl, hd => by
  have hw : wrap64 ((pre.length : Int) + 1) = (pre.length : Int) + 1 := by simp at hl; exact wrap_id (by omega) (by omega)
  by_cases hc : isDig c = true
  ·have ih := fun acc' => specReadDec_bad r (pre ++ [c]) acc' (by rw [← app_mid]; exact hl) (by simpa [hc] using hd)
   simp only [← app_mid, len_snoc] at ih
   refine Ev.step (fun k => ?_) (ih (wrap64 ((wrap64 (acc * 10)) + (((c.toNat : Int) - 48) % 256))))
   simp only [spec_ReadDec.l0]
   rw [if_pos (size_lt_mid ..), if_pos (by omega), bt_mid, l1digit_dig, hc, hw]
   simp only [Option.bind_some, if_true]
  ·refine Ev.step (f := fun _ => some ((0 : Int), false)) (fun k => ?_) (Ev.now _)
   simp only [spec_ReadDec.l0]
   rw [if_pos (size_lt_mid ..), if_pos (by omega), bt_mid, l1digit_dig]
   simp only [Option.bind_some, if_neg hc]
theorem specReadDec_is (l : List UInt8) (hl : l.length ≤ 1099511627776) : Ev (fun k => spec_ReadDec.f k (mkB l)) (rdec l) := by
 have hj : Ev (fun k => spec_ReadDec.j0 k (mkB l) true) ((0 : Int), false) := Ev.step (f := fun _ => some ((0 : Int), false)) (fun k => by simp [spec_ReadDec.j0]) (Ev.now _)
 unfold spec_ReadDec.f
 by_cases h0 : l = []
 ·have : rdec l = (0, false) := by unfold rdec; rw [if_neg (by rintro ⟨h, _⟩; subst h0; exact (dval_dec _).2.2 h)]
  have hz : ((mkB l).size : Int) = 0 := by rw [size_mk, h0]; rfl
  rw [this]
  simp only [if_pos hz]; exact hj
 ·have h1 : 1 ≤ l.length := List.length_pos_iff.2 h0
  have hz : ¬ ((mkB l).size : Int) = 0 := by rw [size_mk]; omega
  simp only [if_neg hz]
  by_cases h15 : l.length ≤ 15
  ·have e : decide (((mkB l).size : Int) > 15) = false := decide_eq_false (by rw [size_mk]; omega)
   rw [e]
   refine Ev.step (f := fun k => spec_ReadDec.l0 k (mkB l) 0 0) (fun k => by simp [spec_ReadDec.j0]) ?_
   by_cases hd : l.all isDig = true
   ·have := specReadDec_go l [] 0 (by decide) (by simpa using h15) hd
    have e2 : rdec l = if Lib.decDigits (dvalF 0 l) = [] ++ l then ((dvalF 0 l : Int), true) else (0, false) := by
     unfold rdec dval
     simp only [List.nil_append]
     by_cases hh : Lib.decDigits (dvalF 0 l) = l
     ·rw [if_pos ⟨hh, h15⟩, if_pos hh]
     ·rw [if_neg (fun q => hh q.1), if_neg hh]
    rw [e2]; exact this
   ·have e2 : rdec l = (0, false) := by
     unfold rdec
     rw [if_neg]
     rintro ⟨hh, _⟩
     exact hd (by have := (dval_dec (dval l)).2.1; rwa [hh] at this)
    rw [e2]
    exact specReadDec_bad l [] 0 (by simpa using h15) (by simpa using hd)
  ·have e : decide (((mkB l).size : Int) > 15) = true := decide_eq_true (by rw [size_mk]; omega)
   have e2 : rdec l = (0, false) := by unfold rdec; rw [if_neg (fun q => h15 q.2)]
   rw [e, e2]; exact hj
theorem parse_digits : ∀ (l : List UInt8) (acc m : Nat), l.all isDig = true → acc < 10 ^ m → m + l.length ≤ 15 → Lib.parseUint10 acc l = .ok (dvalF acc l)
 | [], acc, m, _, _, _ => rfl
 | c :: r, acc, m, hd, ha, hm => by
  simp only [List.all_cons, Bool.and_eq_true] at hd
  have hc : 48 ≤ c.toNat ∧ c.toNat ≤ 57 := by have := hd.1; simpa [isDig] using this
  simp only [List.length_cons] at hm
  have h15 : (10 : Nat) ^ m ≤ 10 ^ 14 := Nat.pow_le_pow_right (by decide) (by omega)
  have h3 : (10 : Nat) ^ 14 = 100000000000000 := by decide
  rw [Lib.parseUint10, if_pos hc, if_neg (by omega), if_neg (by omega), parse_digits r _ (m + 1) hd.2 (by rw [Nat.pow_succ]; omega) (by omega)]
  rfl
theorem implReadDec_ok (l : List UInt8) : impl_ReadDec.ok l = rdec l := by
 unfold impl_ReadDec.ok
 by_cases h : Lib.decDigits (dval l) = l ∧ l.length ≤ 15
 ·obtain ⟨h1, h2⟩ := h
  have hall : l.all isDig = true := by have := (dval_dec (dval l)).2.1; rwa [h1] at this
  have hne : l ≠ [] := by have := (dval_dec (dval l)).2.2; rwa [h1] at this
  have hlt := dval_lt15 l hall h2
  have hp : Lib.parseMag l = .ok (dval l) := by
   unfold Lib.parseMag
   rw [if_neg hne, parse_digits l 0 0 hall (by decide) (by omega)]; rfl
  have hat : Lib.atoiAll l = .ok (dval l : Int) := by
   cases l with
   | nil => exact absurd rfl hne
   | cons c r =>
    have hc : 48 ≤ c.toNat ∧ c.toNat ≤ 57 := by
     simp only [List.all_cons, Bool.and_eq_true] at hall
     have := hall.1; simpa [isDig] using this
    unfold Lib.atoiAll
    simp only [if_neg (show ¬ (c.toNat = 43 ∨ c.toNat = 45) by omega), hp]
    rw [if_neg (by omega), if_neg (by omega), if_neg (by omega)]
  rw [hat, rdec, if_pos ⟨h1, h2⟩]
  simp only []
  rw [if_pos ⟨by omega, by omega, by unfold Lib.itoa; rw [if_neg (by omega), Int.toNat_natCast]; exact h1⟩]
 ·have hr : rdec l = (0, false) := by unfold rdec; rw [if_neg h]
  rw [hr]
  cases hA : Lib.atoiAll l with
  | «syntax» => rfl
  | range => rfl
  | ok v =>
   simp only []
   rw [if_neg]
   rintro ⟨h0, h1, h2⟩
   obtain ⟨n, rfl⟩ : ∃ n : Nat, v = n := ⟨v.toNat, by omega⟩
   have h3 : Lib.decDigits n = l := by rw [← h2]; unfold Lib.itoa; rw [if_neg (by omega), Int.toNat_natCast]
   have h4 : dval l = n := by rw [← h3]; exact (dval_dec n).1
   exact h ⟨by rw [h4, h3], by rw [← h3, Lib.decDigits_length]; exact nDigits_le15 n (by omega)⟩
theorem implReadDec_is (l : List UInt8) (hl : l.length ≤ 1099511627776) : impl_ReadDec.f (mkB l) = some (rdec l) := by
 unfold impl_ReadDec.f
 rw [if_pos (by rw [size_mk]; exact hl), ← implReadDec_ok]
 rfl
/-! #### FoldD -/
def lowS (s : ByteArray) : ByteArray := strOfNums ((bytesOf s).map lowI)
theorem lowS_size (s : ByteArray) : (lowS s).size = s.size := by
 unfold lowS; rw [size_strOf, List.length_map]
 show (bytesOf s).length = _
 rw [bytesOf, List.length_map, Array.length_toList]; rfl
def lowL (l : List UInt8) : List UInt8 := bl (lowS (mkB l))
theorem lowL_len (l : List UInt8) : (lowL l).length = l.length := by unfold lowL; rw [size_bl, lowS_size, size_mk]
/-! #### UrlReadM -/
def urlIf (h : List UInt8) (p : Int) (path q : List UInt8) (hq : Bool) : UrlR := if urlOkL h p path q hq = true then (mkB h, p, mkB path, mkB q, hq, true) else noUrl
/-- A path as it is read, '/' for none. -/
def pathR (b : List UInt8) : List UInt8 := if (cutB 63 b).1 = [] then [47] else cleanL (cutB 63 b).1
/-- The parts behind 'http://'. -/
def restR (r : List UInt8) : UrlR :=
 if (cutB 58 (authL r)).2.2 = true then (if (rdec (cutB 58 (authL r)).2.1).2 = true then urlIf (lowL (cutB 58 (authL r)).1) (rdec (cutB 58 (authL r)).2.1).1 (pathR (behL r)) (cutB 63 (behL r)).2.1 (cutB 63 (behL r)).2.2 else noUrl)
 else urlIf (lowL (cutB 58 (authL r)).1) 80 (pathR (behL r)) (cutB 63 (behL r)).2.1 (cutB 63 (behL r)).2.2
def headR (s : List UInt8) : Bool := decide (s.length ≤ 200) && s.all visB && !s.contains 35 && decide (7 ≤ s.length) && decide (lowL (s.take 7) = [104, 116, 116, 112, 58, 47, 47])
def readUrlR (s : List UInt8) : UrlR := if headR s = true then restR (s.drop 7) else noUrl
theorem cleanL_slash : cleanL [47] = [47] := by decide +kernel
theorem urlOkL_nil (p : Int) (path q : List UInt8) (hq : Bool) : urlOkL [] p path q hq = false := by
 unfold urlOkL hostL; simp
theorem restR_nil : restR [] = noUrl := by
 unfold restR
 rw [if_neg (by decide)]
 have e : (cutB 58 (authL [])).1 = [] := rfl
 have e2 : lowL [] = [] := List.length_eq_zero_iff.1 (by rw [lowL_len]; rfl)
 rw [e, e2, urlIf, urlOkL_nil, if_neg Bool.false_ne_true]
/-! #### UrlLens -/
theorem urlOkL_port {h : List UInt8} {p : Int} {path q : List UInt8} {hq : Bool} (hu : urlOkL h p path q hq = true) : ∃ n : Nat, p = n ∧ n ≤ 65535 ∧ hostL h = true ∧ path.length ≤ 200 ∧ q.length ≤ 200 := by
 unfold urlOkL tailL at hu
 simp only [Bool.and_eq_true, decide_eq_true_eq] at hu
 refine ⟨p.toNat, by omega, by omega, hu.1.1.1.1, ?_, ?_⟩
 ·have := hu.2.2
  unfold urlL at this
  simp only [List.length_append] at this
  omega
 ·have := hu.2.2
  have h4 := hu.1.2
  unfold urlL queryL at this
  cases hq
  ·simp at h4; rw [h4]; simp
  ·rw [if_pos rfl] at this
   simp only [List.length_append, List.length_cons] at this
   omega
theorem host_pieces {h : List UInt8} (hh : hostL h = true) : h.length ≤ 60 ∧ ∀ x ∈ splitL 46 h, x ≠ [] := by
 unfold hostL at hh
 simp only [Bool.and_eq_true, decide_eq_true_eq, List.all_eq_true] at hh
 refine ⟨hh.1.2, fun x hx e => ?_⟩
 have := hh.2 x hx
 rw [e] at this
 simp [hostP] at this
/-! #### CanonM -/
theorem urlIf_cases (h : List UInt8) (p : Int) (path q : List UInt8) (hq : Bool) : urlIf h p path q hq = noUrl ∨ (urlOkL h p path q hq = true ∧ urlIf h p path q hq = (mkB h, p, mkB path, mkB q, hq, true)) := by
 unfold urlIf
 by_cases hu : urlOkL h p path q hq = true
 ·rw [if_pos hu]; exact .inr ⟨hu, rfl⟩
 ·rw [if_neg hu]; exact .inl rfl
theorem readUrlR_cases (s : List UInt8) : readUrlR s = noUrl ∨ ∃ h p path q hq, urlOkL h p path q hq = true ∧ readUrlR s = (mkB h, p, mkB path, mkB q, hq, true) := by
 unfold readUrlR
 split
 ·unfold restR
  have key : ∀ h p path q hq, urlIf h p path q hq = noUrl ∨ ∃ h' p' path' q' hq', urlOkL h' p' path' q' hq' = true ∧ urlIf h p path q hq = (mkB h', p', mkB path', mkB q', hq', true) := by
   intro h p path q hq
   rcases urlIf_cases h p path q hq with e | ⟨hu, e⟩
   ·exact .inl e
   ·exact .inr ⟨_, _, _, _, _, hu, e⟩
  split
  ·split
   ·exact key _ _ _ _ _
   ·exact .inl rfl
  ·exact key _ _ _ _ _
 ·exact .inl rfl
/-! #### SurtI -/
def stepT (sep acc x : List UInt8) : List UInt8 := if acc = [] then x else acc ++ sep ++ x
def sumL (l : List (List UInt8)) : Nat := (l.map (fun x => x.length + 1)).sum
theorem fold_join (sep : List UInt8) : ∀ (r : List (List UInt8)) (acc : List UInt8), acc ≠ [] → (∀ x ∈ r, x ≠ []) → r.foldl (stepT sep) acc = acc ++ Lib.joinTail sep r
 | [], acc, _, _ => by simp [Lib.joinTail]
 | x :: r, acc, ha, hr => by
  have hx : x ≠ [] := hr x (by simp)
  have ih := fold_join sep r (acc ++ sep ++ x) (by simp [ha]) (fun y hy => hr y (List.mem_cons_of_mem _ hy))
  rw [List.foldl_cons, show stepT sep acc x = acc ++ sep ++ x by unfold stepT; rw [if_neg ha], ih]
  simp [Lib.joinTail]
theorem fold_is (sep : List UInt8) (l : List (List UInt8)) (hl : ∀ x ∈ l, x ≠ []) : l.foldl (stepT sep) [] = Lib.join l sep := by
 cases l with
 | nil => rfl
 | cons x r =>
  rw [List.foldl_cons, show stepT sep [] x = x from rfl, fold_join sep r x (hl x (by simp)) (fun y hy => hl y (List.mem_cons_of_mem _ hy)), Lib.join_cons]
theorem implReverse_go : ∀ (n : Nat) (A M B : List ByteArray), M.length ≤ n → (A ++ M ++ B).length ≤ 100000000 →
  Ev (fun k => slices_Reverse_string_string.l0 k (A ++ M ++ B) (A.length : Int) ((A.length : Int) + (M.length : Int) - 1)) (A ++ M.reverse ++ B) := by
 intro n
 induction n using Nat.strongRecOn with
 | _ n ih =>
  intro A M B hn hl
  by_cases h2 : M.length ≤ 1
  ·have hr : M.reverse = M := by
    match M, h2 with
    | [], _ => rfl
    | [_], _ => rfl
   rw [hr]
   exact Ev.step (f := fun _ => some (A ++ M ++ B)) (fun k => by rw [slices_Reverse_string_string.l0, if_neg (by omega)]) (Ev.now _)
  ·obtain ⟨x, M', y, rfl⟩ : ∃ x M' y, M = x :: (M' ++ [y]) := by
    cases M with
    | nil => simp at h2
    | cons x r =>
     rcases List.eq_nil_or_concat r with rfl | ⟨a, b, rfl⟩
     ·simp at h2
     ·exact ⟨x, a, b, by simp⟩
   have hl2 := hl
   simp at hl2
   have hn2 : M'.length + 2 ≤ n := by simpa using hn
   have ih' := ih M'.length (by omega) (A ++ [y]) M' ([x] ++ B) (Nat.le_refl _) (by simp; omega)
   have e1 : A ++ [y] ++ M' ++ ([x] ++ B) = A ++ y :: (M' ++ x :: B) := by simp
   have e2 : A ++ [y] ++ M'.reverse ++ ([x] ++ B) = A ++ (x :: (M' ++ [y])).reverse ++ B := by simp
   have e3 : (((A ++ [y]).length : Int)) = (A.length : Int) + 1 := by simp
   have e4 : (((A ++ [y]).length : Int) + (M'.length : Int) - 1) = (A.length : Int) + ((x :: (M' ++ [y])).length : Int) - 1 - 1 := by simp; omega
   rw [e1, e2, e3] at ih'
   rw [e3] at e4
   rw [e4] at ih'
   have e0 : A ++ x :: (M' ++ [y]) ++ B = A ++ x :: (M' ++ y :: B) := by simp
   have hj : (A.length : Int) + ((x :: (M' ++ [y])).length : Int) - 1 = ((A.length + M'.length + 1 : Nat) : Int) := by simp; omega
   rw [e0]
   rw [hj] at ih' ⊢
   have hzl : (A ++ x :: (M' ++ y :: B)).length = A.length + M'.length + 2 + B.length := by simp; omega
   have r1 : rdOf ByteArray.empty (A ++ x :: (M' ++ y :: B)) (A.length : Int) = x := by rw [rdOf, getD_mid]
   have r2 : rdOf ByteArray.empty (A ++ x :: (M' ++ y :: B)) ((A.length + M'.length + 1 : Nat) : Int) = y := by
    have := getD_mid (A ++ x :: M') y B ByteArray.empty
    rw [rdOf]
    rw [show A ++ x :: (M' ++ y :: B) = (A ++ x :: M') ++ y :: B by simp]
    rw [show ((A.length + M'.length + 1 : Nat) : Int) = (((A ++ x :: M').length : Nat) : Int) by simp; omega]
    exact this
   have s1 : (A ++ x :: (M' ++ y :: B)).set A.length y = A ++ y :: (M' ++ y :: B) := by simp [List.set_append]
   have s2 : (A ++ y :: (M' ++ y :: B)).set (A.length + M'.length + 1) x = A ++ y :: (M' ++ x :: B) := by
    rw [show A ++ y :: (M' ++ y :: B) = (A ++ y :: M') ++ y :: B by simp, show A.length + M'.length + 1 = (A ++ y :: M').length by simp; omega]
    rw [List.set_append_right _ _ (Nat.le_refl _)]
    simp
   refine Ev.step (fun k => ?_) ih'
   rw [slices_Reverse_string_string.l0, if_pos (by omega), if_pos (by omega), if_pos (by rw [hzl]; omega), if_pos (by omega), if_pos (by rw [hzl]; omega), r1, r2, Int.toNat_natCast, Int.toNat_natCast, s1, s2, wrap_id (a := (A.length : Int) + 1) (by omega) (by omega), wrap_id (by omega) (by omega)]
theorem implReverse_is (l : List ByteArray) (hl : l.length ≤ 100000000) : Ev (fun k => slices_Reverse_string_string.f k l) l.reverse := by
 have := implReverse_go l.length [] l [] (Nat.le_refl _) (by simpa using hl)
 unfold slices_Reverse_string_string.f
 rw [wrap_id (by omega) (by omega)]
 simpa using this
theorem implTurned_is (l : List ByteArray) (hl : l.length ≤ 100000000) : Ev (fun k => impl_turned.f k l) l.reverse := by
 unfold impl_turned.f
 simp only [Option.bind_some, List.nil_append, List.length_nil, Nat.zero_add, if_pos (show l.length < 8796093022208 by omega)]
 refine (implReverse_is l hl).bind ?_
 exact Ev.now _
theorem join_sum (sep : List UInt8) (l : List (List UInt8)) : (Lib.join l sep).length ≤ (sep.length + 1) * sumL l := by
 have ht : ∀ r : List (List UInt8), (Lib.joinTail sep r).length ≤ (sep.length + 1) * sumL r := by
  intro r
  induction r with
  | nil => simp [Lib.joinTail]
  | cons y r ih =>
   have e : Lib.joinTail sep (y :: r) = sep ++ y ++ Lib.joinTail sep r := by simp [Lib.joinTail]
   have e2 : sumL (y :: r) = y.length + 1 + sumL r := by simp [sumL]
   rw [e, e2]
   simp only [List.length_append]
   have h3 : (sep.length + 1) * (y.length + 1 + sumL r) = (sep.length + 1) * sumL r + (sep.length + 1) * (y.length + 1) := by rw [Nat.mul_add, Nat.add_comm]
   have h4 : (sep.length + 1) * (y.length + 1) = sep.length * y.length + sep.length + y.length + 1 := by simp [Nat.add_mul, Nat.mul_add]; omega
   omega
 cases l with
 | nil => simp [Lib.join_nil]
 | cons x r =>
  have := ht r
  have e2 : sumL (x :: r) = x.length + 1 + sumL r := by simp [sumL]
  rw [Lib.join_cons, e2, List.length_append]
  have h3 : (sep.length + 1) * (x.length + 1 + sumL r) = (sep.length + 1) * sumL r + (sep.length + 1) * (x.length + 1) := by rw [Nat.mul_add, Nat.add_comm]
  have h4 : (sep.length + 1) * (x.length + 1) = sep.length * x.length + sep.length + x.length + 1 := by simp [Nat.add_mul, Nat.mul_add]; omega
  omega
theorem sumL_split (c : UInt8) : ∀ l : List UInt8, sumL (splitL c l) = l.length + 1
 | [] => rfl
 | b :: r => by
  have ih := sumL_split c r
  unfold splitL
  by_cases h : b = c
  ·rw [if_pos h]; simp [sumL] at ih ⊢; omega
  ·rw [if_neg h]
   cases hs : splitL c r with
   | nil => exact absurd hs (splitL_ne c r)
   | cons a t => rw [hs] at ih; simp [sumL] at ih ⊢; omega
theorem sumL_rev (l : List (List UInt8)) : sumL l.reverse = sumL l := by simp [sumL]
def revH (h : List UInt8) : List UInt8 := Lib.join (splitL 46 h).reverse [44]
def surtL (h : List UInt8) (p : Int) (path q : List UInt8) (hq : Bool) : List UInt8 := if urlOkL h p path q hq = true then revH h ++ portL p.toNat ++ [41] ++ path ++ queryL q hq else []
theorem revH_len (h : List UInt8) : (revH h).length ≤ 2 * (h.length + 1) := by
 have := join_sum [44] (splitL 46 h).reverse
 rw [sumL_rev, sumL_split] at this
 exact this
theorem implSurt_is (h : List UInt8) (p : Int) (path q : List UInt8) (hq : Bool) (h1 : h.length ≤ 1048576) (h2 : path.length ≤ 1048576) (h3 : q.length ≤ 1048576) :
  Ev (fun k => impl_Surt.f k (mkB h) p (mkB path) (mkB q) hq) (mkB (surtL h p path q hq)) := by
 unfold impl_Surt.f surtL
 refine (implUrlOk_is h p path q hq h1 h2 h3).bind ?_
 cases hu : urlOkL h p path q hq
 ·simp only [Bool.false_eq_true, if_false]; exact Ev.now _
 ·obtain ⟨n, rfl, hn, hh, hpl, hql⟩ := urlOkL_port hu
  obtain ⟨hhl, hne⟩ := host_pieces hh
  have hpo := portL_len n (by omega)
  have hqu := queryL_len q hq
  have hrv := revH_len h
  have hsl := splitL_len 46 h
  simp only [if_true, Int.toNat_natCast, stringsSplit_is h 46 (show h.length ≤ 1048576 by omega), Option.bind_some]
  refine (implTurned_is _ (by rw [List.length_map]; omega)).bind ?_
  have hj : strings_Join.f ((splitL 46 h).map mkB).reverse (⟨#[44]⟩ : ByteArray) = some (mkB (revH h)) := by
   unfold strings_Join.f
   rw [← List.map_reverse, join_map]
   have e : (⟨#[44]⟩ : ByteArray).data.toList = [44] := rfl
   rw [e, if_pos ⟨by rw [List.length_map, List.length_reverse]; omega, by have := hrv; unfold revH at this; omega⟩]
   rfl
  rw [hj, Option.bind_some, implPort_is _ n _ _ hq (by omega), Option.bind_some, implPath_is _ _ path q hq (by omega) (by omega), show (⟨#[41]⟩ : ByteArray) = mkB [41] from rfl]
  simp only [Option.bind_some, mk_append, size_mk]
  rw [if_pos (by omega), if_pos (by simp only [List.length_append]; omega), if_pos (by simp only [List.length_append, List.length_singleton]; omega), ← List.append_assoc]
  exact Ev.now _
/-! #### SurtBack -/
theorem joinTail_cons (sep y : List UInt8) (r : List (List UInt8)) : Lib.joinTail sep (y :: r) = sep ++ y ++ Lib.joinTail sep r := by simp [Lib.joinTail]
theorem join_len1 (c : UInt8) (l : List (List UInt8)) (h : l ≠ []) : (Lib.join l [c]).length + 1 = sumL l := by
 have ht : ∀ r : List (List UInt8), (Lib.joinTail [c] r).length = sumL r := by
  intro r
  induction r with
  | nil => rfl
  | cons y r ih =>
   have e2 : sumL (y :: r) = y.length + 1 + sumL r := by simp [sumL]
   rw [joinTail_cons, e2]; simp only [List.length_append, List.length_singleton]; omega
 cases l with
 | nil => exact absurd rfl h
 | cons x r =>
  have e2 : sumL (x :: r) = x.length + 1 + sumL r := by simp [sumL]
  rw [Lib.join_cons, e2, List.length_append, ht]; omega
theorem splitL_join (c : UInt8) : ∀ (r : List (List UInt8)) (x : List UInt8), (∀ b ∈ x, b ≠ c) → (∀ y ∈ r, ∀ b ∈ y, b ≠ c) → splitL c (x ++ Lib.joinTail [c] r) = x :: r
 | [], x, hx, _ => by simpa [Lib.joinTail] using splitL_none c x hx
 | y :: r, x, hx, hr => by
  rw [joinTail_cons, show x ++ ([c] ++ y ++ Lib.joinTail [c] r) = x ++ c :: (y ++ Lib.joinTail [c] r) by simp, splitL_hit c x _ hx, splitL_join c r y (hr y (by simp)) (fun z hz => hr z (List.mem_cons_of_mem _ hz))]
theorem splitL_of_join (c : UInt8) (l : List (List UInt8)) (h : l ≠ []) (hl : ∀ y ∈ l, ∀ b ∈ y, b ≠ c) : splitL c (Lib.join l [c]) = l := by
 cases l with
 | nil => exact absurd rfl h
 | cons x r => rw [Lib.join_cons]; exact splitL_join c r x (hl x (by simp)) (fun y hy => hl y (List.mem_cons_of_mem _ hy))
theorem join_splitL (c : UInt8) (l : List UInt8) : Lib.join (splitL c l) [c] = l := by
 generalize hn : l.length = n
 induction n using Nat.strongRecOn generalizing l with
 | _ n ih =>
  rcases split_dec c l with h | ⟨mid, r, rfl, h⟩
  ·rw [splitL_none c l h, Lib.join_one]
  ·rw [splitL_hit c mid r h, Lib.join_cons]
   have hr := ih r.length (by simp at hn; omega) r rfl
   have hne := splitL_ne c r
   generalize splitL c r = t at hr hne ⊢
   cases t with
   | nil => exact absurd rfl hne
   | cons y t => rw [Lib.join_cons] at hr; rw [joinTail_cons, ← hr]; simp
theorem mem_join (sep : List UInt8) (l : List (List UInt8)) (b : UInt8) (hb : b ∈ Lib.join l sep) : (∃ x ∈ l, b ∈ x) ∨ b ∈ sep := by
 cases l with
 | nil => simp [Lib.join_nil] at hb
 | cons x r =>
  rw [Lib.join_cons] at hb
  rcases List.mem_append.1 hb with h | h
  ·exact .inl ⟨x, by simp, h⟩
  ·unfold Lib.joinTail at h
   rw [List.mem_flatten] at h
   obtain ⟨y, hy, h⟩ := h
   obtain ⟨z, hz, rfl⟩ := List.mem_map.1 hy
   rcases List.mem_append.1 h with h | h
   ·exact .inr h
   ·exact .inl ⟨z, List.mem_cons_of_mem _ hz, h⟩
theorem cutB_none (c : UInt8) (l : List UInt8) (h : ∀ b ∈ l, b ≠ c) : cutB c l = (l, [], false) := by
 have := cutB_app c l [] h
 simpa [cutB] using this
theorem cutB_hit (c : UInt8) (a b : List UInt8) (h : ∀ x ∈ a, x ≠ c) : cutB c (a ++ c :: b) = (a, b, true) := by
 rw [cutB_app c a _ h]; simp [cutB]
theorem hostB_ne (b : UInt8) (h : hostB b = true) : b ≠ 41 ∧ b ≠ 44 ∧ b ≠ 58 ∧ b ≠ 46 := by
 refine ⟨?_, ?_, ?_, ?_⟩ <;> (rintro rfl; revert h; decide)
theorem host_bytes {h : List UInt8} (hh : hostL h = true) : ∀ x ∈ splitL 46 h, x ≠ [] ∧ ∀ b ∈ x, hostB b = true := by
 intro x hx
 have h1 := (host_pieces hh).2 x hx
 unfold hostL at hh
 simp only [Bool.and_eq_true, decide_eq_true_eq, List.all_eq_true] at hh
 have h2 := hh.2 x hx
 unfold hostP at h2
 simp only [Bool.and_eq_true, List.all_eq_true] at h2
 exact ⟨h1, h2.2⟩
theorem revH_bytes {h : List UInt8} (hh : hostL h = true) : ∀ b ∈ revH h, b ≠ 41 ∧ b ≠ 58 := by
 intro b hb
 rcases mem_join _ _ _ hb with ⟨x, hx, hbx⟩ | hb
 ·have := hostB_ne b ((host_bytes hh x (by simpa using hx)).2 b hbx)
  exact ⟨this.1, this.2.2.1⟩
 ·simp at hb; subst hb; decide
theorem dec_bytes (n : Nat) : ∀ b ∈ Lib.decDigits n, b ≠ 41 ∧ b ≠ 58 ∧ b ≠ 32 := by
 intro b hb
 have := List.all_eq_true.1 (dval_dec n).2.1 b hb
 refine ⟨?_, ?_, ?_⟩ <;> (rintro rfl; revert this; decide)
theorem portL_bytes (p : Nat) : ∀ b ∈ portL p, b ≠ 41 := by
 intro b hb
 unfold portL at hb
 split at hb
 ·simp at hb
 ·rcases List.mem_cons.1 hb with rfl | hb
  ·decide
  ·exact (dec_bytes p b hb).1
theorem cut_port (a : List UInt8) (p : Nat) (ha : ∀ b ∈ a, b ≠ 58) : (cutB 58 (a ++ portL p)).1 = a := by
 unfold portL
 split
 ·rw [List.append_nil, cutB_none 58 a ha]
 ·rw [cutB_hit 58 a _ ha]
theorem split_revH {h : List UInt8} (hh : hostL h = true) : splitL 44 (revH h) = (splitL 46 h).reverse := by
 unfold revH
 refine splitL_of_join 44 _ (by simpa using splitL_ne 46 h) ?_
 intro y hy b hb
 exact (hostB_ne b ((host_bytes hh y (by simpa using hy)).2 b hb)).2.1
theorem revH_len1 (h : List UInt8) : (revH h).length = h.length := by
 have := join_len1 44 (splitL 46 h).reverse (by simpa using splitL_ne 46 h)
 rw [sumL_rev, sumL_split] at this
 unfold revH; omega
/-- The host that stands ahead, as the program turns it and as the reference does. -/
def labI (s : List UInt8) : List UInt8 := Lib.join (splitL 44 s).reverse [46]
def labS (s : List UInt8) : List UInt8 := (splitL 44 s).reverse.foldl (stepT [46]) []
theorem labI_len (s : List UInt8) : (labI s).length = s.length := by
 have := join_len1 46 (splitL 44 s).reverse (by simpa using splitL_ne 44 s)
 rw [sumL_rev, sumL_split] at this
 unfold labI; omega
theorem lab_rev {h : List UInt8} (hh : hostL h = true) : labI (revH h) = h ∧ labS (revH h) = h := by
 have e : labI (revH h) = h := by unfold labI; rw [split_revH hh, List.reverse_reverse, join_splitL]
 refine ⟨e, ?_⟩
 unfold labS
 rw [split_revH hh, List.reverse_reverse, fold_is [46] _ (fun x hx => (host_bytes hh x hx).1), join_splitL]
theorem surt_back {h : List UInt8} {p : Int} {path q : List UInt8} {hq : Bool} (hu : urlOkL h p path q hq = true) :
  cutB 41 (surtL h p path q hq) = (revH h ++ portL p.toNat, path ++ queryL q hq, true) ∧ (cutB 58 (revH h ++ portL p.toNat)).1 = revH h ∧ (surtL h p path q hq).length ≤ 194 := by
 obtain ⟨n, rfl, hn, hh, hpl, hql⟩ := urlOkL_port hu
 unfold surtL
 rw [if_pos hu, Int.toNat_natCast]
 have hb := revH_bytes hh
 refine ⟨?_, cut_port _ n (fun b hb' => (hb b hb').2), ?_⟩
 ·rw [show revH h ++ portL n ++ [41] ++ path ++ queryL q hq = (revH h ++ portL n) ++ 41 :: (path ++ queryL q hq) by simp]
  refine cutB_hit 41 _ _ ?_
  intro x hx
  rcases List.mem_append.1 hx with hx | hx
  ·exact (hb x hx).1
  ·exact portL_bytes n x hx
 ·have h2 : (urlL h n path q hq).length ≤ 200 := by
   unfold urlOkL tailL at hu
   simp only [Bool.and_eq_true, decide_eq_true_eq, Int.toNat_natCast] at hu
   exact hu.2.2
  unfold urlL at h2
  simp only [List.length_append, revH_len1, List.length_singleton, show httpB.length = 7 from rfl] at h2 ⊢
  omega
/-! #### UnsurtI -/
/-- What is read, if the text is the one of it. -/
def surtIf (h : List UInt8) (p : Int) (path q : List UInt8) (hq : Bool) (s : List UInt8) : UrlR := if surtL h p path q hq = s then (mkB h, p, mkB path, mkB q, hq, true) else noUrl
def portU (a : List UInt8) : Int := if (cutB 58 a).2.2 = true then (rdec (cutB 58 a).2.1).1 else 80
def unsurtR (s : List UInt8) : UrlR :=
 if (cutB 41 s).2.2 = true then surtIf (labI (cutB 58 (cutB 41 s).1).1) (portU (cutB 41 s).1) (cutB 63 (cutB 41 s).2.1).1 (cutB 63 (cutB 41 s).2.1).2.1 (cutB 63 (cutB 41 s).2.1).2.2 s else noUrl
theorem cutB_ne (c : UInt8) (s : List UInt8) (h : (cutB c s).2.2 = true) : s ≠ [] := by
 rintro rfl; cases h
theorem implUnsurt_j0 (s h : List UInt8) (p : Int) (path q : List UInt8) (hq : Bool) (h0 : s ≠ []) (h1 : h.length ≤ 1048576) (h2 : path.length ≤ 1048576) (h3 : q.length ≤ 1048576) :
  Ev (fun k => impl_Unsurt.j0 k (mkB s) (mkB h) p (mkB path) (mkB q) hq) (surtIf h p path q hq s) := by
 refine Ev.step (f := fun k => (impl_UrlOk.f k (mkB h) p (mkB path) (mkB q) hq).bind fun t331 => (if t331 = true then ((impl_Surt.f k (mkB h) p (mkB path) (mkB q) hq).bind fun t332 => (if t332.toList = (mkB s).toList then (some (mkB h, p, mkB path, mkB q, hq, true)) else (some noUrl))) else (some noUrl))) (fun k => by rw [impl_Unsurt.j0]; rfl) ?_
 refine (implUrlOk_is h p path q hq h1 h2 h3).bind ?_
 unfold surtIf
 cases hu : urlOkL h p path q hq
 ·have e : surtL h p path q hq = [] := by unfold surtL; rw [if_neg (by rw [hu]; exact Bool.false_ne_true)]
  simp only [Bool.false_eq_true, if_false]
  rw [e, if_neg (fun e => h0 e.symm)]
  exact Ev.now _
 ·simp only [if_true]
  refine (implSurt_is h p path q hq h1 h2 h3).bind ?_
  rw [toList_mk, toList_mk]
  split <;> exact Ev.now _
theorem implUnsurt_is (s : List UInt8) (hs : s.length ≤ 1048576) : Ev (fun k => impl_Unsurt.f k (mkB s)) (unsurtR s) := by
 unfold impl_Unsurt.f unsurtR
 have c1 := cutB_lens 41 s
 rw [stringsCut_is 41 s hs]
 simp only [Option.bind_some]
 cases hf : (cutB 41 s).2.2
 ·simp only [Bool.false_eq_true, if_false]; exact Ev.now _
 ·have h0 := cutB_ne 41 s hf
  have c2 := cutB_lens 58 (cutB 41 s).1
  have c3 := cutB_lens 63 (cutB 41 s).2.1
  have hlab := labI_len (cutB 58 (cutB 41 s).1).1
  have hsl := splitL_len 44 (cutB 58 (cutB 41 s).1).1
  simp only [if_true, stringsCut_is 58 (cutB 41 s).1 (show (cutB 41 s).1.length ≤ 1048576 by omega), Option.bind_some, implReadPath_is (cutB 41 s).2.1 (show (cutB 41 s).2.1.length ≤ 1048576 by omega), stringsSplit_is (cutB 58 (cutB 41 s).1).1 44 (show (cutB 58 (cutB 41 s).1).1.length ≤ 1048576 by omega)]
  refine (implTurned_is _ (by rw [List.length_map]; omega)).bind ?_
  have hj : strings_Join.f ((splitL 44 (cutB 58 (cutB 41 s).1).1).map mkB).reverse (⟨#[46]⟩ : ByteArray) = some (mkB (labI (cutB 58 (cutB 41 s).1).1)) := by
   unfold strings_Join.f
   rw [← List.map_reverse, join_map]
   have e : (⟨#[46]⟩ : ByteArray).data.toList = [46] := rfl
   rw [e, if_pos ⟨by rw [List.length_map, List.length_reverse]; omega, by unfold labI at hlab; omega⟩]
   rfl
  rw [hj]
  simp only [Option.bind_some]
  unfold portU
  cases hp : (cutB 58 (cutB 41 s).1).2.2
  ·simp only [Bool.false_eq_true, if_false]
   exact implUnsurt_j0 s _ 80 _ _ _ h0 (by omega) (by omega) (by omega)
  ·simp only [if_true, implReadDec_is _ (show (cutB 58 (cutB 41 s).1).2.1.length ≤ 1099511627776 by omega), Option.bind_some]
   exact implUnsurt_j0 s _ _ _ _ _ h0 (by omega) (by omega) (by omega)
/-! #### UrlBack -/
-- a URL comes back from its text and from its other form
theorem urlOkL_parts {h : List UInt8} {n : Nat} {path q : List UInt8} {hq : Bool} (hu : urlOkL h (n : Int) path q hq = true) :
  (path ≠ [] ∧ cleanL path = path) ∧ (hq = true ∨ q = []) ∧ q.all visB = true ∧ q.contains 35 = false ∧ (urlL h n path q hq).length ≤ 200 := by
 unfold urlOkL tailL at hu
 simp only [Bool.and_eq_true, decide_eq_true_eq, Bool.or_eq_true, Bool.not_eq_true', Int.toNat_natCast] at hu
 exact ⟨hu.1.1.2, hu.1.2, hu.2.1.1, hu.2.1.2, hu.2.2⟩
theorem clean_path {p : List UInt8} (h0 : p ≠ []) (h : cleanL p = p) : (∃ r, p = 47 :: r) ∧ p.all visB = true ∧ ∀ b ∈ p, b ≠ 35 ∧ b ≠ 63 := by
 unfold cleanL at h
 split at h
 ·rename_i hc
  obtain ⟨_, h2, h3, h4⟩ := hc
  refine ⟨?_, h3, fun b hb => ?_⟩
  ·cases p with
   | nil => exact absurd rfl h0
   | cons b r => simp at h2; exact ⟨r, by rw [h2]⟩
  ·have := List.any_eq_false.1 h4 b hb
   simp at this
   exact this
 ·exact absurd h.symm h0
theorem authL_hit (c : UInt8) (hc : sqB c = true) : ∀ (a b : List UInt8), (∀ x ∈ a, x ≠ 47 ∧ x ≠ 63) → authL (a ++ c :: b) = a ∧ behL (a ++ c :: b) = c :: b
 | [], b, _ => by
  constructor
  ·unfold authL; rw [List.nil_append, List.takeWhile_cons]; simp [hc]
  ·unfold behL; rw [List.nil_append, List.dropWhile_cons]; simp [hc]
 | x :: a, b, h => by
  obtain ⟨i1, i2⟩ := authL_hit c hc a b (fun y hy => h y (List.mem_cons_of_mem _ hy))
  have hx : sqB x = false := by
   obtain ⟨h1, h2⟩ := h x (by simp)
   simp [sqB, h1, h2]
  constructor
  ·unfold authL at i1 ⊢; rw [List.cons_append, List.takeWhile_cons]; simp [hx, i1]
  ·unfold behL at i2 ⊢; rw [List.cons_append, List.dropWhile_cons]; simp [hx, i2]
theorem lowL_id (l : List UInt8) (h : ∀ b ∈ l, ¬ (65 ≤ b.toNat ∧ b.toNat ≤ 90)) : lowL l = l := by
 have e1 : (bytesOf (mkB l)).map lowI = l.map fun b => (b.toNat : Int) := by
  have : bytesOf (mkB l) = l.map fun b => (b.toNat : Int) := by simp [bytesOf, mkB]
  rw [this, List.map_map]
  refine List.map_congr_left fun b hb => ?_
  have := h b hb
  show lowI (b.toNat : Int) = (b.toNat : Int)
  unfold lowI
  split
  ·split
   ·omega
   ·rfl
  ·rfl
 unfold lowL lowS
 rw [e1]
 have e2 : strOfNums (l.map fun b => (b.toNat : Int)) = mkB l := by simp [strOfNums, mkB, Function.comp_def]
 rw [e2, bl_mk]
theorem hostB_low (b : UInt8) (h : hostB b = true ∨ b = 46) : ¬ (65 ≤ b.toNat ∧ b.toNat ≤ 90) ∧ visB b = true ∧ b ≠ 35 ∧ b ≠ 47 ∧ b ≠ 63 ∧ b ≠ 58 := by
 have key : ∀ n : Fin 256, (hostB (UInt8.ofNat n.val) = true ∨ UInt8.ofNat n.val = 46) → (¬ (65 ≤ (UInt8.ofNat n.val).toNat ∧ (UInt8.ofNat n.val).toNat ≤ 90) ∧ visB (UInt8.ofNat n.val) = true ∧ UInt8.ofNat n.val ≠ 35 ∧ UInt8.ofNat n.val ≠ 47 ∧ UInt8.ofNat n.val ≠ 63 ∧ UInt8.ofNat n.val ≠ 58) := by decide +kernel
 have := key ⟨b.toNat, b.toNat_lt⟩
 simp only [UInt8.ofNat_toNat] at this
 exact this h
theorem mem_split (c : UInt8) (l : List UInt8) (b : UInt8) (hb : b ∈ l) : b = c ∨ ∃ x ∈ splitL c l, b ∈ x := by
 have h := join_splitL c l
 rw [← h] at hb
 rcases mem_join _ _ _ hb with h | h
 ·exact .inr h
 ·exact .inl (by simpa using h)
theorem host_all {h : List UInt8} (hh : hostL h = true) : ∀ b ∈ h, hostB b = true ∨ b = 46 := by
 intro b hb
 rcases mem_split 46 h b hb with e | ⟨x, hx, hbx⟩
 ·exact .inr e
 ·exact .inl ((host_bytes hh x hx).2 b hbx)
theorem dig_facts (n : Nat) : ∀ b ∈ Lib.decDigits n, visB b = true ∧ b ≠ 35 ∧ b ≠ 47 ∧ b ≠ 63 := by
 intro b hb
 have h := List.all_eq_true.1 (dval_dec n).2.1 b hb
 have key : ∀ n : Fin 256, isDig (UInt8.ofNat n.val) = true → (visB (UInt8.ofNat n.val) = true ∧ UInt8.ofNat n.val ≠ 35 ∧ UInt8.ofNat n.val ≠ 47 ∧ UInt8.ofNat n.val ≠ 63) := by decide +kernel
 have := key ⟨b.toNat, b.toNat_lt⟩
 simp only [UInt8.ofNat_toNat] at this
 exact this h
theorem port_facts (n : Nat) : ∀ b ∈ portL n, visB b = true ∧ b ≠ 35 ∧ b ≠ 47 ∧ b ≠ 63 := by
 intro b hb
 unfold portL at hb
 split at hb
 ·simp at hb
 ·rcases List.mem_cons.1 hb with rfl | hb
  ·decide
  ·exact dig_facts n b hb
theorem portU_is (a : List UInt8) (n : Nat) (ha : ∀ b ∈ a, b ≠ 58) (hn : n ≤ 65535) : portU (a ++ portL n) = (n : Int) := by
 unfold portU portL
 by_cases h80 : n = 80
 ·rw [if_pos h80, List.append_nil, cutB_none 58 a ha, h80]; rfl
 ·rw [if_neg h80, cutB_hit 58 a _ ha, rdec_dec n (by omega)]; rfl
theorem cut_query (path q : List UInt8) (hq : Bool) (hp : ∀ b ∈ path, b ≠ 63) (h : hq = true ∨ q = []) : cutB 63 (path ++ queryL q hq) = (path, q, hq) := by
 unfold queryL
 cases hq
 ·have hq0 : q = [] := h.resolve_left (by decide)
  rw [if_neg Bool.false_ne_true, List.append_nil, cutB_none 63 path hp, hq0]
 ·rw [if_pos rfl, cutB_hit 63 path q hp]
theorem readUrl_back {h : List UInt8} {n : Nat} {path q : List UInt8} {hq : Bool} (hu : urlOkL h (n : Int) path q hq = true) :
  readUrlR (urlL h n path q hq) = (mkB h, (n : Int), mkB path, mkB q, hq, true) := by
 obtain ⟨m, hm, hm2, hh, _, _⟩ := urlOkL_port hu
 have hnm : n ≤ 65535 := by omega
 obtain ⟨⟨p0, pc⟩, hqq, qv, q35, hlen⟩ := urlOkL_parts hu
 obtain ⟨⟨r, hr⟩, pv, pb⟩ := clean_path p0 pc
 have ha := host_all hh
 have hv : (urlL h n path q hq).all visB = true ∧ (urlL h n path q hq).contains 35 = false := by
  have key : ∀ b ∈ urlL h n path q hq, visB b = true ∧ b ≠ 35 := by
   intro b hb
   unfold urlL at hb
   simp only [List.mem_append] at hb
   rcases hb with (((hb | hb) | hb) | hb) | hb
   ·have : ∀ x ∈ httpB, visB x = true ∧ x ≠ 35 := by decide
    exact this b hb
   ·have := hostB_low b (ha b hb); exact ⟨this.2.1, this.2.2.1⟩
   ·have := port_facts n b hb; exact ⟨this.1, this.2.1⟩
   ·exact ⟨List.all_eq_true.1 pv b hb, (pb b hb).1⟩
   ·unfold queryL at hb
    split at hb
    ·rcases List.mem_cons.1 hb with rfl | hb
     ·decide
     ·refine ⟨List.all_eq_true.1 qv b hb, ?_⟩
      rintro rfl
      have : q.contains 35 = true := List.contains_iff_mem.2 hb
      rw [this] at q35; cases q35
    ·simp at hb
  refine ⟨List.all_eq_true.2 fun b hb => (key b hb).1, ?_⟩
  cases hc : (urlL h n path q hq).contains 35
  ·rfl
  ·exact absurd rfl (key 35 (List.contains_iff_mem.1 hc)).2
 have e0 : urlL h n path q hq = httpB ++ ((h ++ portL n) ++ (path ++ queryL q hq)) := by unfold urlL; simp
 have t7 : (urlL h n path q hq).take 7 = httpB := by rw [e0]; rfl
 have d7 : (urlL h n path q hq).drop 7 = (h ++ portL n) ++ (path ++ queryL q hq) := by rw [e0]; rfl
 have hl7 : lowL httpB = [104, 116, 116, 112, 58, 47, 47] := by decide +kernel
 have h7 : 7 ≤ (urlL h n path q hq).length := by rw [e0, List.length_append]; show 7 ≤ 7 + _; omega
 have hhead : headR (urlL h n path q hq) = true := by
  unfold headR
  rw [t7, hl7, hv.1, hv.2, decide_eq_true hlen, decide_eq_true h7]; rfl
 have hsplit := authL_hit 47 (by decide) (h ++ portL n) (r ++ queryL q hq) (by
  intro x hx
  rcases List.mem_append.1 hx with hx | hx
  ·have := hostB_low x (ha x hx); exact ⟨this.2.2.2.1, this.2.2.2.2.1⟩
  ·have := port_facts n x hx; exact ⟨this.2.2.1, this.2.2.2⟩)
 have e1 : 47 :: (r ++ queryL q hq) = path ++ queryL q hq := by rw [hr]; rfl
 rw [e1] at hsplit
 have h58 : ∀ b ∈ h, b ≠ 58 := fun b hb => (hostB_low b (ha b hb)).2.2.2.2.2
 have hcq := cut_query path q hq (fun b hb => (pb b hb).2) hqq
 have hpr : pathR (path ++ queryL q hq) = path := by unfold pathR; rw [hcq]; rw [if_neg p0, pc]
 have hlow : lowL h = h := lowL_id h (fun b hb => (hostB_low b (ha b hb)).1)
 unfold readUrlR
 rw [if_pos hhead, d7]
 unfold restR
 rw [hsplit.1, hsplit.2, hcq, hpr]
 by_cases h80 : n = 80
 ·have ep : portL n = [] := by unfold portL; rw [if_pos h80]
  rw [ep, List.append_nil, cutB_none 58 h h58, hlow]
  simp only [Bool.false_eq_true, if_false]
  have hc80 : ((n : Nat) : Int) = 80 := by omega
  rw [hc80] at hu ⊢
  unfold urlIf
  rw [if_pos hu]
 ·have ep : portL n = 58 :: Lib.decDigits n := by unfold portL; rw [if_neg h80]
  rw [ep, cutB_hit 58 h _ h58, rdec_dec n (by omega), hlow]
  simp only [if_true]
  unfold urlIf
  rw [if_pos hu]
theorem unsurt_back {h : List UInt8} {n : Nat} {path q : List UInt8} {hq : Bool} (hu : urlOkL h (n : Int) path q hq = true) :
  unsurtR (surtL h (n : Int) path q hq) = (mkB h, (n : Int), mkB path, mkB q, hq, true) := by
 obtain ⟨m, hm, hm2, hh, _, _⟩ := urlOkL_port hu
 have hnm : n ≤ 65535 := by omega
 obtain ⟨⟨p0, pc⟩, hqq, qv, q35, hlen⟩ := urlOkL_parts hu
 obtain ⟨⟨r, hr⟩, pv, pb⟩ := clean_path p0 pc
 obtain ⟨b1, b2, b3⟩ := surt_back hu
 rw [Int.toNat_natCast] at b1 b2
 have hcq := cut_query path q hq (fun b hb => (pb b hb).2) hqq
 have hpu := portU_is (revH h) n (fun b hb => (revH_bytes hh b hb).2) hnm
 unfold unsurtR
 rw [b1]
 simp only [if_true]
 rw [b2, (lab_rev hh).1, hpu, hcq]
 unfold surtIf
 rw [if_pos rfl]
/-! #### FoldI -/
theorem implFold_is (s : ByteArray) (h : s.size ≤ 1099511627776) : impl_Fold.f s = some (lowS s) := by unfold impl_Fold.f; rw [if_pos h]; rfl
theorem implFoldL (l : List UInt8) (h : l.length ≤ 1048576) : impl_Fold.f (mkB l) = some (mkB (lowL l)) := by
 rw [implFold_is _ (by rw [size_mk]; omega), lowL, mk_bl]
/-! #### UrlReadI -/
theorem stringsHas_is (c : UInt8) (l : List UInt8) (h : l.length ≤ 1048576) : strings_Contains.f (mkB l) (⟨#[c]⟩ : ByteArray) = some (l.contains c) := by
 unfold strings_Contains.f strings_Index.f
 rw [if_pos (by rw [size_mk]; omega), Option.bind_some]
 have e1 : (⟨#[c]⟩ : ByteArray).data.toList = [c] := rfl
 have e2 : (mkB l).data.toList = l := bl_mk l
 rw [e1, e2, index_has]
theorem implRU_j3 (h : List UInt8) (p : Int) (path q : List UInt8) (hq : Bool) (h1 : h.length ≤ 1048576) (h2 : path.length ≤ 1048576) (h3 : q.length ≤ 1048576) :
  Ev (fun k => impl_ReadUrl.j3 k (mkB h) p (mkB path) (mkB q) hq) (urlIf h p (cleanL path) q hq) := by
 refine Ev.step (f := fun k => (impl_CleanPath.f k (mkB path)).bind fun t296 => ((impl_UrlOk.f k (mkB h) p t296 (mkB q) hq).bind fun t297 => (if t297 = true then (some (mkB h, p, t296, mkB q, hq, true)) else (some ((⟨#[]⟩ : ByteArray), 0, (⟨#[]⟩ : ByteArray), (⟨#[]⟩ : ByteArray), false, false))))) (fun k => by rw [impl_ReadUrl.j3]) ?_
 have hc := implCleanPath_is (mkB path) (by rw [size_mk]; omega)
 rw [bl_mk] at hc
 refine hc.bind ?_
 refine (implUrlOk_is h p (cleanL path) q hq h1 (by have := cleanL_len path; omega) h3).bind ?_
 unfold urlIf
 cases urlOkL h p (cleanL path) q hq <;> exact Ev.now _
theorem implRU_j2 (h : List UInt8) (p : Int) (b : List UInt8) (h1 : h.length ≤ 1048576) (hb : b.length ≤ 1048576) :
  Ev (fun k => impl_ReadUrl.j2 k (mkB h) p (mkB (cutB 63 b).1) (mkB (cutB 63 b).2.1) (cutB 63 b).2.2) (urlIf h p (pathR b) (cutB 63 b).2.1 (cutB 63 b).2.2) := by
 have hl := cutB_lens 63 b
 unfold pathR
 by_cases h0 : (cutB 63 b).1 = []
 ·have hj := implRU_j3 h p [47] (cutB 63 b).2.1 (cutB 63 b).2.2 h1 (by simp) (by omega)
  rw [cleanL_slash] at hj
  rw [if_pos h0]
  exact Ev.step (fun k => by rw [impl_ReadUrl.j2, toList_mk, if_pos h0]; rfl) hj
 ·have hj := implRU_j3 h p (cutB 63 b).1 (cutB 63 b).2.1 (cutB 63 b).2.2 h1 (by omega) (by omega)
  rw [if_neg h0]
  exact Ev.step (fun k => by rw [impl_ReadUrl.j2, toList_mk, if_neg h0]) hj
theorem implRU_j1 (r : List UInt8) (hr : r.length ≤ 1048576) : Ev (fun k => impl_ReadUrl.j1 k (mkB r) ((authL r).length : Int)) (restR r) := by
 have hpl := part_lens r
 have hal := cutB_lens 58 (authL r)
 have e1 : r.take (authL r).length = authL r := by
  have := congrArg (List.take (authL r).length) (auth_beh r)
  rw [List.take_left] at this; exact this.symm
 have e2 : r.drop (authL r).length = behL r := by
  have := congrArg (List.drop (authL r).length) (auth_beh r)
  rw [List.drop_left] at this; exact this.symm
 refine Ev.step (f := fun k => (if (cutB 58 (authL r)).2.2 = true then ((impl_ReadDec.f (mkB (cutB 58 (authL r)).2.1)).bind fun bt294 => (if bt294.2 = true then (impl_ReadUrl.j2 k (mkB (lowL (cutB 58 (authL r)).1)) bt294.1 (mkB (cutB 63 (behL r)).1) (mkB (cutB 63 (behL r)).2.1) (cutB 63 (behL r)).2.2) else (some noUrl))) else (impl_ReadUrl.j2 k (mkB (lowL (cutB 58 (authL r)).1)) 80 (mkB (cutB 63 (behL r)).1) (mkB (cutB 63 (behL r)).2.1) (cutB 63 (behL r)).2.2))) (fun k => by
  rw [impl_ReadUrl.j1, if_pos (by omega), if_pos (by rw [size_mk]; omega), Int.toNat_natCast, take_mk, drop_mk, e1, e2, stringsCut_is 58 _ (by omega), Option.bind_some, implReadPath_is _ (by omega), Option.bind_some, implFoldL _ (by omega), Option.bind_some]
  rfl) ?_
 unfold restR
 cases hp : (cutB 58 (authL r)).2.2
 ·simp only [Bool.false_eq_true, if_false]
  exact implRU_j2 _ 80 (behL r) (by rw [lowL_len]; omega) (by omega)
 ·simp only [if_true, implReadDec_is _ (show (cutB 58 (authL r)).2.1.length ≤ 1099511627776 by omega), Option.bind_some]
  cases hok : (rdec (cutB 58 (authL r)).2.1).2
  ·simp only [Bool.false_eq_true, if_false]; exact Ev.now _
  ·simp only [if_true]
   exact implRU_j2 _ _ (behL r) (by rw [lowL_len]; omega) (by omega)
theorem implRU_j0 (s : List UInt8) (hs : s.length ≤ 1048576) (h7 : 7 ≤ s.length) : Ev (fun k => impl_ReadUrl.j0 k (mkB s) false) (restR (s.drop 7)) := by
 have hrl : (s.drop 7).length ≤ 1048576 := by rw [List.length_drop]; omega
 have hia : strings_IndexAny.f (mkB (s.drop 7)) (⟨#[47, 63]⟩ : ByteArray) = some (Lib.indexAny (s.drop 7) [47, 63]) := by
  unfold strings_IndexAny.f
  rw [if_pos ⟨by rw [size_mk]; omega, rfl, by decide⟩]
  simp [mkB]
 refine Ev.step (fun k => ?_) (implRU_j1 (s.drop 7) hrl)
 rw [impl_ReadUrl.j0, if_neg Bool.false_ne_true, if_pos (by rw [size_mk]; omega), drop_mk, hia, Option.bind_some, indexAny_sq]
 by_cases hb : behL (s.drop 7) = []
 ·have e := auth_beh (s.drop 7)
  rw [hb, List.append_nil] at e
  rw [if_pos hb, if_pos (by decide), size_mk, e]
 ·rw [if_neg hb, if_neg (by omega)]
theorem implReadUrl_is (s : List UInt8) (hs : s.length ≤ 1048576) : Ev (fun k => impl_ReadUrl.f k (mkB s)) (readUrlR s) := by
 have hj : Ev (fun k => impl_ReadUrl.j0 k (mkB s) true) noUrl := Ev.step (f := fun _ => some noUrl) (fun k => by rw [impl_ReadUrl.j0, if_pos rfl]; rfl) (Ev.now _)
 unfold impl_ReadUrl.f readUrlR headR
 rw [size_mk]
 by_cases h200 : s.length ≤ 200
 ·simp only [if_neg (show ¬ (s.length : Int) > 200 by omega), decide_eq_true h200, Bool.true_and]
  refine (implAllVis_is (mkB s) (by rw [size_mk]; omega)).bind ?_
  rw [bl_mk]
  cases hv : s.all visB
  ·simpa using hj
  ·simp only [if_true, Bool.true_and, stringsHas_is 35 s hs, Option.bind_some]
   cases hc : s.contains 35
   ·simp only [Bool.false_eq_true, if_false, Bool.not_false, Bool.true_and]
    by_cases h7 : (s.length : Int) < 7
    ·simp only [if_pos h7, decide_eq_false (show ¬ 7 ≤ s.length by omega), Bool.false_and, Bool.false_eq_true, if_false]; exact hj
    ·simp only [if_neg h7, decide_eq_true (show 7 ≤ s.length by omega), Bool.true_and, if_pos (show (0 : Int) ≤ 7 by decide), if_pos (show (7 : Int) ≤ (s.length : Int) by omega), take_mk]
     rw [implFoldL _ (by rw [List.length_take]; omega)]
     simp only [Option.bind_some, toList_mk]
     by_cases hb : lowL (s.take 7) = [104, 116, 116, 112, 58, 47, 47]
     ·rw [decide_eq_true hb, if_pos rfl, hb]
      exact implRU_j0 s hs (by omega)
     ·rw [decide_eq_false hb, if_neg Bool.false_ne_true, bne_iff_ne.2 hb]
      exact hj
   ·simp only [if_true, Bool.not_true, Bool.false_and, Bool.false_eq_true, if_false]; exact hj
 ·simp only [if_pos (show (s.length : Int) > 200 by omega), decide_eq_false h200, Bool.false_and, Bool.false_eq_true, if_false]
  exact hj
/-! #### UrlTextI -/
theorem implUrlTxt_is (h : List UInt8) (p : Nat) (path q : List UInt8) (hq : Bool) (hu : urlOkL h p path q hq = true) :
  Ev (fun k => impl_UrlText.f k (mkB h) (p : Int) (mkB path) (mkB q) hq) (mkB (urlL h p path q hq)) := by
 obtain ⟨n, hn, hn2, hh, h2, h3⟩ := urlOkL_port hu
 have h1 := (host_pieces hh).1
 unfold impl_UrlText.f
 refine (implUrlOk_is h p path q hq (by omega) (by omega) (by omega)).bind ?_
 simp only [hu, if_true]
 rw [implText_is h p path q hq (by omega) (by omega) (by omega) (by omega)]
 exact Ev.now _
/-! #### Places -/
theorem place_read : readUrlR [72, 84, 84, 80, 58, 47, 47, 65, 46, 98, 47, 120, 47, 46, 46, 47, 121, 63, 122] = (mkB [97, 46, 98], 80, mkB [47, 121], mkB [122], true, true) := by decide +kernel
theorem place_ok : urlOkL [97, 46, 98] ((80 : Nat) : Int) [47, 121] [122] true = true := by decide +kernel
theorem place_text : urlL [97, 46, 98] 80 [47, 121] [122] true = [104, 116, 116, 112, 58, 47, 47, 97, 46, 98, 47, 121, 63, 122] := by decide +kernel
theorem place_surt : surtL [97, 46, 98] ((80 : Nat) : Int) [47, 121] [122] true = [98, 44, 97, 41, 47, 121, 63, 122] := by decide +kernel
theorem places_is : Ev (fun k => laws_places.f k) true := by
 unfold laws_places.f
 have h1 := implReadUrl_is [72, 84, 84, 80, 58, 47, 47, 65, 46, 98, 47, 120, 47, 46, 46, 47, 121, 63, 122] (by decide)
 rw [place_read] at h1
 refine Ev.bind (a := ((mkB [97, 46, 98], 80, mkB [47, 121], mkB [122], true, true) : UrlR)) h1 ?_
 simp only [if_true]
 have h2 := implUrlTxt_is [97, 46, 98] 80 [47, 121] [122] true place_ok
 rw [place_text] at h2
 refine Ev.bind (a := mkB [104, 116, 116, 112, 58, 47, 47, 97, 46, 98, 47, 121, 63, 122]) h2 ?_
 simp only [toList_mk, if_true]
 have h3 := implSurt_is [97, 46, 98] ((80 : Nat) : Int) [47, 121] [122] true (by decide) (by decide) (by decide)
 rw [place_surt] at h3
 refine Ev.bind (a := mkB [98, 44, 97, 41, 47, 121, 63, 122]) h3 ?_
 simp only [toList_mk, beq_self_eq_true]
 exact Ev.now true
/-! #### Draw -/
-- what is drawn: it comes, and lies in its range
theorem i64_and255 (n : Int) : Go.bits .and .i64 n 255 = n % 256 := by
 have h255 : (BitVec.ofInt 64 255).toNat = 2 ^ 8 - 1 := by decide
 have key : (BitVec.ofInt 64 n &&& BitVec.ofInt 64 255).toNat = (n % ((2 ^ 64 : Nat) : Int)).toNat % 2 ^ 8 := by
  rw [BitVec.toNat_and, BitVec.toNat_ofInt, h255, Nat.and_two_pow_sub_one_eq_mod]
 show IntKind.i64.wrap ((BitVec.ofInt 64 n &&& BitVec.ofInt 64 255).toNat : Nat) = n % 256
 rw [key, IntKind.wrap_i64]
 omega
def StOk (b : List Int) (i : Int) : Prop := 0 ≤ i ∧ i ≤ (b.length : Int) ∧ (b.length : Int) ≤ 9223372036854775807
theorem l1Byte_ok (b : List Int) (i h : Int) (hs : StOk b i) : ∃ x i' h', spec_l1Byte.f b i h = some (x, i', h') ∧ 0 ≤ x ∧ x ≤ 255 ∧ StOk b i' := by
 obtain ⟨h0, h1, h2⟩ := hs
 unfold spec_l1Byte.f
 simp only [i64_and255]
 by_cases c : i < (b.length : Int)
 ·rw [if_pos c, if_pos h0, wrap_id (a := i + 1) (by omega) (by omega)]
  exact ⟨_, _, _, rfl, by omega, by omega, by omega, by omega, h2⟩
 ·rw [if_neg c]
  exact ⟨_, _, _, rfl, by omega, by omega, h0, h1, h2⟩
theorem l1Below_ok (b : List Int) (i h n : Int) (hs : StOk b i) : ∃ x i' h', spec_l1Below.f b i h n = some (x, i', h') ∧ 0 ≤ x ∧ (n ≤ 0 → x = 0) ∧ (0 < n → x < n) ∧ StOk b i' := by
 unfold spec_l1Below.f
 by_cases c : n ≤ 0
 ·rw [if_pos c]; exact ⟨_, _, _, rfl, by omega, fun _ => rfl, by omega, hs⟩
 rw [if_neg c]
 have hn0 : ¬ n = 0 := by omega
 by_cases c2 : n ≤ 256
 ·rw [if_pos c2]
  obtain ⟨x, i1, h1, e1, x0, x1, s1⟩ := l1Byte_ok b i h hs
  rw [e1, Option.bind_some, if_neg hn0, Int.tmod_eq_emod_of_nonneg x0]
  exact ⟨_, _, _, rfl, Int.emod_nonneg _ hn0, by omega, fun _ => Int.emod_lt_of_pos _ (by omega), s1⟩
 ·rw [if_neg c2]
  obtain ⟨x, i1, h1, e1, x0, x1, s1⟩ := l1Byte_ok b i h hs
  obtain ⟨y, i2, h2, e2, y0, y1, s2⟩ := l1Byte_ok b i1 h1 s1
  obtain ⟨z, i3, h3, e3, z0, z1, s3⟩ := l1Byte_ok b i2 h2 s2
  obtain ⟨u, i4, h4, e4, u0, u1, s4⟩ := l1Byte_ok b i3 h3 s3
  simp only [e1, Option.bind_some, e2, e3, e4, if_neg hn0]
  rw [wrap_id (a := x * 16777216) (by omega) (by omega), wrap_id (a := y * 65536) (by omega) (by omega), wrap_id (a := z * 256) (by omega) (by omega), wrap_id (a := x * 16777216 + y * 65536) (by omega) (by omega), wrap_id (a := x * 16777216 + y * 65536 + z * 256) (by omega) (by omega), wrap_id (a := x * 16777216 + y * 65536 + z * 256 + u) (by omega) (by omega)]
  have q0 : 0 ≤ x * 16777216 + y * 65536 + z * 256 + u := by omega
  rw [Int.tmod_eq_emod_of_nonneg q0]
  exact ⟨_, _, _, rfl, Int.emod_nonneg _ hn0, by omega, fun _ => Int.emod_lt_of_pos _ (by omega), s4⟩
theorem l1New_go (l : List Int) (hl : (l.length : Int) ≤ 9223372036854775807) : ∀ (n : Nat) (i h : Int), 0 ≤ i → i ≤ 4000 → (4000 - i).toNat = n → ∃ h', Ev (fun k => spec_l1New.l0 k l h i) (l, 0, h') := by
 intro n
 induction n with
 | zero =>
  intro i h h0 h1 hn
  refine ⟨h, Ev.step (f := fun _ => some (l, (0 : Int), h)) (fun k => ?_) (Ev.now _)⟩
  rw [spec_l1New.l0]
  by_cases c : i < (l.length : Int)
  ·rw [if_pos c, if_neg (by omega)]
  ·rw [if_neg c]
 | succ n ih =>
  intro i h h0 h1 hn
  by_cases c : i < (l.length : Int)
  ·obtain ⟨h', he⟩ := ih (i + 1) (Go.bits .and .i64 (wrap64 ((wrap64 ((wrap64 (h * 131)) + (wrap64 (rd l i)))) + 7)) 1073741823) (by omega) (by omega) (by omega)
   refine ⟨h', Ev.step (fun k => ?_) he⟩
   rw [spec_l1New.l0, if_pos c, if_pos (by omega), if_pos h0, wrap_id (a := i + 1) (by omega) (by omega)]
  ·exact ⟨h, Ev.step (f := fun _ => some (l, (0 : Int), h)) (fun k => by rw [spec_l1New.l0, if_neg c]) (Ev.now _)⟩
theorem l1New_ok (l : List Int) (hl : l.length ≤ 9223372036854775807) : ∃ h', Ev (fun k => spec_l1New.f k l) (l, 0, h') := l1New_go l (by omega) _ 0 _ (by omega) (by omega) rfl
theorem StOk_new (l : List Int) (hl : l.length ≤ 9223372036854775807) : StOk l 0 := ⟨by omega, by omega, by omega⟩
/-! #### DrawOf -/
theorem l1of_go (s : ByteArray) (hs0 : 0 < s.size) (b : List Int) (n : Int) (hn : n ≤ 1000000) : ∀ (m : Nat) (acc : List Int) (i h j : Int), 0 ≤ j → (n - j).toNat = m → (acc.length : Int) = j → StOk b i →
  ∃ r i' h', Ev (fun k => spec_l1of.l0 k n s acc j b i h) (r, i', h') ∧ (r.size : Int) = max j n ∧ StOk b i' := by
 intro m
 induction m with
 | zero =>
  intro acc i h j hj hm ha hs
  exact ⟨strOfNums acc, i, h, Ev.step (f := fun _ => some (strOfNums acc, i, h)) (fun k => by rw [spec_l1of.l0, if_neg (by omega)]) (Ev.now _), by rw [size_strOf]; omega, hs⟩
 | succ m ih =>
  intro acc i h j hj hm ha hs
  obtain ⟨x, i1, h1, e1, x0, _, x1, s1⟩ := l1Below_ok b i h (s.size : Int) hs
  obtain ⟨r, i2, h2, he, hr, s2⟩ := ih (acc ++ [bt s x]) i1 h1 (j + 1) (by omega) (by omega) (by rw [List.length_append, List.length_singleton]; omega) s1
  refine ⟨r, i2, h2, Ev.step (fun k => ?_) he, by omega, s2⟩
  rw [spec_l1of.l0, if_pos (by omega), e1, Option.bind_some, if_pos x0, if_pos (x1 (by omega)), if_pos (by omega), wrap_id (a := j + 1) (by omega) (by omega)]
theorem l1of_ok (b : List Int) (i h n : Int) (s : ByteArray) (hs0 : 0 < s.size) (hn : n ≤ 1000000) (hs : StOk b i) : ∃ r i' h', Ev (fun k => spec_l1of.f k b i h n s) (r, i', h') ∧ (r.size : Int) = max 0 n ∧ StOk b i' :=
 l1of_go s hs0 b n hn _ [] i h 0 (by omega) rfl rfl hs
/-! #### DrawPath -/
theorem l7path_go (b : List Int) : ∀ (m : Nat) (acc : ByteArray) (n i h : Int), n.toNat = m → acc.size + 10 * m ≤ 1000 → n ≤ 50 → StOk b i →
  ∃ r i' h', Ev (fun k => spec_l7path.l0 k acc n b i h) (r, i', h') ∧ r.size ≤ 1000 ∧ StOk b i' := by
 intro m
 induction m with
 | zero =>
  intro acc n i h hm ha hn hs
  exact ⟨acc, i, h, Ev.step (f := fun _ => some (acc, i, h)) (fun k => by rw [spec_l7path.l0, if_neg (by omega)]) (Ev.now _), by omega, hs⟩
 | succ m ih =>
  intro acc n i h hm ha hn hs
  obtain ⟨x, i1, h1, e1, x0, _, x1, s1⟩ := l1Below_ok b i h 13 hs
  have x2 := x1 (by omega)
  let Y : List ByteArray := [(⟨#[97]⟩ : ByteArray), (⟨#[98]⟩ : ByteArray), (⟨#[46]⟩ : ByteArray), (⟨#[46, 46]⟩ : ByteArray), (⟨#[]⟩ : ByteArray), (⟨#[37, 52, 49]⟩ : ByteArray), (⟨#[37, 50, 102]⟩ : ByteArray), (⟨#[37, 55, 101]⟩ : ByteArray), (⟨#[37, 122, 122]⟩ : ByteArray), (⟨#[37, 50, 53]⟩ : ByteArray), (⟨#[46, 46, 46]⟩ : ByteArray), (⟨#[37, 50, 69]⟩ : ByteArray), (⟨#[37, 50, 101, 37, 50, 69]⟩ : ByteArray)]
  have hY : ∀ j : Fin 13, (rdOf ByteArray.empty Y (j.val : Int)).size ≤ 6 := by decide +kernel
  have hx : (rdOf ByteArray.empty Y x).size ≤ 6 := by
   have := hY ⟨x.toNat, by omega⟩
   rwa [show (((⟨x.toNat, by omega⟩ : Fin 13).val : Nat) : Int) = x by simp; omega] at this
  have hsz : (acc ++ (⟨#[47]⟩ : ByteArray)).size = acc.size + 1 := by rw [ByteArray.size_append]; rfl
  obtain ⟨r, i2, h2, he, hr, s2⟩ := ih ((acc ++ (⟨#[47]⟩ : ByteArray)) ++ rdOf ByteArray.empty Y x) (n - 1) i1 h1 (by omega) (by rw [ByteArray.size_append, hsz]; omega) (by omega) s1
  refine ⟨r, i2, h2, Ev.step (fun k => ?_) he, hr, s2⟩
  rw [spec_l7path.l0, if_pos (by omega), if_pos (by omega), Option.bind_some, e1, Option.bind_some]
  dsimp only
  rw [if_pos x0, if_pos (by show x < ((Y.length : Nat) : Int); exact x2), if_pos (by rw [hsz]; exact Nat.le_trans (Nat.add_le_add_left hx _) (by omega)), wrap_id (a := n - 1) (by omega) (by omega)]
theorem l7path_ok (b : List Int) (i h : Int) (hs : StOk b i) : ∃ r i' h', Ev (fun k => spec_l7path.f k b i h) (r, i', h') ∧ r.size ≤ 1000 ∧ StOk b i' := by
 obtain ⟨x, i1, h1, e1, x0, _, x1, s1⟩ := l1Below_ok b i h 5 hs
 have x2 := x1 (by omega)
 obtain ⟨r, i2, h2, he, hr, s2⟩ := l7path_go b _ (⟨#[]⟩ : ByteArray) x i1 h1 rfl (by show 0 + 10 * x.toNat ≤ 1000; omega) (by omega) s1
 refine ⟨r, i2, h2, ?_, hr, s2⟩
 unfold spec_l7path.f
 rw [e1]
 simp only [Option.bind_some]
 exact he
/-! #### DrawUrl -/
theorem pick_le (Y : List ByteArray) (B : Nat) (hY : ∀ y ∈ Y, y.size ≤ B) (x : Int) : (rdOf ByteArray.empty Y x).size ≤ B := by
 show (Y.getD x.toNat ByteArray.empty).size ≤ B
 rw [List.getD_eq_getElem?_getD]
 cases h : Y[x.toNat]? with
 | none => exact Nat.zero_le _
 | some y => exact hY y (List.mem_of_getElem? h)
theorem l1Once_ok (b : List Int) (i h n : Int) (hs : StOk b i) : ∃ x i' h', spec_l1Once.f b i h n = some (x, i', h') ∧ StOk b i' := by
 obtain ⟨x, i1, h1, e1, _, _, _, s1⟩ := l1Below_ok b i h n hs
 unfold spec_l1Once.f
 rw [e1, Option.bind_some]
 exact ⟨_, _, _, rfl, s1⟩
set_option maxRecDepth 4000 in
theorem l7url_ok (b : List Int) (i h : Int) (hs : StOk b i) : ∃ r i' h', Ev (fun k => spec_l7url.f k b i h) (r, i', h') ∧ r.size ≤ 2000 ∧ StOk b i' := by
 unfold spec_l7url.f
 obtain ⟨x, i1, h1, e1, x0, _, x1, s1⟩ := l1Below_ok b i h 3 hs
 obtain ⟨y, i2, h2, e2, y0, _, y1, s2⟩ := l1Below_ok b i1 h1 4 s1
 obtain ⟨z, i3, h3, e3, z0, _, z1, s3⟩ := l1Below_ok b i2 h2 5 s2
 have x2 := x1 (by omega)
 have y2 := y1 (by omega)
 have z2 := z1 (by omega)
 obtain ⟨p, i4, h4, e4, p4, s4⟩ := l7path_ok b i3 h3 s3
 obtain ⟨o, i5, h5, e5, s5⟩ := l1Once_ok b i4 h4 3 s4
 simp only [Option.bind_some, e1, e2, e3]
 generalize hA : rdOf ByteArray.empty [(⟨#[104, 116, 116, 112, 58, 47, 47]⟩ : ByteArray), (⟨#[72, 84, 84, 80, 58, 47, 47]⟩ : ByteArray), (⟨#[72, 116, 116, 112, 58, 47, 47]⟩ : ByteArray)] x = A
 generalize hB : rdOf ByteArray.empty [(⟨#[97, 46, 101, 120, 97, 109, 112, 108, 101]⟩ : ByteArray), (⟨#[119, 119, 119, 46, 66, 46, 101, 120, 97, 109, 112, 108, 101]⟩ : ByteArray), (⟨#[99]⟩ : ByteArray), (⟨#[120, 45, 49, 46, 121]⟩ : ByteArray)] y = B
 generalize hC : rdOf ByteArray.empty [(⟨#[]⟩ : ByteArray), (⟨#[]⟩ : ByteArray), (⟨#[58, 56, 48]⟩ : ByteArray), (⟨#[58, 56, 48, 56, 48]⟩ : ByteArray), (⟨#[58, 54, 53, 53, 51, 53]⟩ : ByteArray)] z = C
 have a20 : A.size ≤ 20 := by rw [← hA]; exact pick_le _ 20 (by decide) x
 have b20 : B.size ≤ 20 := by rw [← hB]; exact pick_le _ 20 (by decide) y
 have c20 : C.size ≤ 20 := by rw [← hC]; exact pick_le _ 20 (by decide) z
 have q1 : (A ++ B).size = A.size + B.size := ByteArray.size_append
 have q2 : ((A ++ B) ++ C).size = A.size + B.size + C.size := by rw [ByteArray.size_append, q1]
 have q3 : (((A ++ B) ++ C) ++ p).size = A.size + B.size + C.size + p.size := by rw [ByteArray.size_append, q2]
 have q4 : ((((A ++ B) ++ C) ++ p) ++ (⟨#[63]⟩ : ByteArray)).size = A.size + B.size + C.size + p.size + 1 := by rw [ByteArray.size_append, q3]; rfl
 simp only [if_pos x0, if_pos (show x < ((([(⟨#[104, 116, 116, 112, 58, 47, 47]⟩ : ByteArray), (⟨#[72, 84, 84, 80, 58, 47, 47]⟩ : ByteArray), (⟨#[72, 116, 116, 112, 58, 47, 47]⟩ : ByteArray)] : List ByteArray).length : Nat) : Int) from x2), if_pos y0, if_pos (show y < ((([(⟨#[97, 46, 101, 120, 97, 109, 112, 108, 101]⟩ : ByteArray), (⟨#[119, 119, 119, 46, 66, 46, 101, 120, 97, 109, 112, 108, 101]⟩ : ByteArray), (⟨#[99]⟩ : ByteArray), (⟨#[120, 45, 49, 46, 121]⟩ : ByteArray)] : List ByteArray).length : Nat) : Int) from y2), if_pos z0, if_pos (show z < ((([(⟨#[]⟩ : ByteArray), (⟨#[]⟩ : ByteArray), (⟨#[58, 56, 48]⟩ : ByteArray), (⟨#[58, 56, 48, 56, 48]⟩ : ByteArray), (⟨#[58, 54, 53, 53, 51, 53]⟩ : ByteArray)] : List ByteArray).length : Nat) : Int) from z2), if_pos (show A.size + B.size ≤ 9223372036854775807 by omega), if_pos (show (A ++ B).size + C.size ≤ 9223372036854775807 by omega)]
 cases o
 ·refine ⟨((A ++ B) ++ C) ++ p, i5, h5, e4.bind ?_, ?_, s5⟩
  ·simp only [if_pos (show ((A ++ B) ++ C).size + p.size ≤ 9223372036854775807 by omega), e5, Option.bind_some, Bool.false_eq_true, if_false]
   exact Ev.now _
  ·omega
 ·obtain ⟨w, i6, h6, e6, w0, _, w1, s6⟩ := l1Below_ok b i5 h5 5 s5
  have w2 := w1 (by omega)
  obtain ⟨t, i7, h7, e7, t7, s7⟩ := l1of_ok b i6 h6 w (⟨#[97, 63, 47, 61, 37, 46]⟩ : ByteArray) (by decide) (by omega) s6
  refine ⟨((((A ++ B) ++ C) ++ p) ++ (⟨#[63]⟩ : ByteArray)) ++ t, i7, h7, e4.bind ?_, ?_, s7⟩
  ·simp only [if_pos (show ((A ++ B) ++ C).size + p.size ≤ 9223372036854775807 by omega), e5, Option.bind_some, if_true, if_pos (show (((A ++ B) ++ C) ++ p).size + 1 ≤ 9223372036854775807 by omega), e6]
   refine e7.bind ?_
   simp only [if_pos (show ((((A ++ B) ++ C) ++ p) ++ (⟨#[63]⟩ : ByteArray)).size + t.size ≤ 9223372036854775807 by omega)]
   exact Ev.now _
  ·rw [ByteArray.size_append, q4]; omega
/-! #### DrawBend -/
theorem l1bend_ok (b : List Int) (i h : Int) (s : ByteArray) (hz : s.size ≤ 100000) (hs : StOk b i) : ∃ r i' h', spec_l1bend.f b i h s = some (r, i', h') ∧ r.size ≤ s.size + 1 ∧ StOk b i' := by
 unfold spec_l1bend.f
 rw [if_pos (by omega)]
 obtain ⟨x, i1, h1, e1, x0, _, x1, s1⟩ := l1Below_ok b i h ((s.size : Int) + 1) hs
 have x2 := x1 (by omega)
 obtain ⟨y, i2, h2, e2, y0, _, y1, s2⟩ := l1Below_ok b i1 h1 4 s1
 have ha : (s.extract 0 x.toNat).size = x.toNat := by rw [ByteArray.size_extract]; omega
 have hb : (s.extract x.toNat s.size).size = s.size - x.toNat := by rw [ByteArray.size_extract]; omega
 simp only [e1, Option.bind_some, e2]
 by_cases c0 : y = 0
 ·obtain ⟨z, i3, h3, e3, z0, z1, s3⟩ := l1Byte_ok b i2 h2 s2
  have h1z : (strOfNums [z % 256]).size = 1 := by rw [size_strOf]; rfl
  rw [if_pos c0, if_pos x0, if_pos (by omega)]
  simp only [e3, Option.bind_some]
  rw [if_pos (by rw [ha, h1z]; omega), if_pos (by rw [ByteArray.size_append, ha, h1z, hb]; omega)]
  exact ⟨_, _, _, rfl, by rw [ByteArray.size_append, ByteArray.size_append, ha, h1z, hb]; omega, s3⟩
 rw [if_neg c0]
 by_cases c1 : y = 1
 ·rw [if_pos c1, if_pos x0, if_pos (by omega)]
  exact ⟨_, _, _, rfl, by rw [ha]; omega, s2⟩
 rw [if_neg c1]
 have hadd : ∃ r i' h', (if s.size + 1 ≤ 9223372036854775807 then (some (s ++ (⟨#[48]⟩ : ByteArray), i2, h2)) else none) = some (r, i', h') ∧ r.size ≤ s.size + 1 ∧ StOk b i' := by
  rw [if_pos (by omega)]
  exact ⟨_, _, _, rfl, by rw [ByteArray.size_append]; exact Nat.le_refl _, s2⟩
 by_cases c2 : y = 2
 ·rw [if_pos c2]
  by_cases c3 : x < (s.size : Int)
  ·have hw : wrap64 (x + 1) = x + 1 := wrap_id (by omega) (by omega)
   have hc : (s.extract (x + 1).toNat s.size).size = s.size - (x + 1).toNat := by rw [ByteArray.size_extract]; omega
   rw [if_pos c3, if_pos x0, if_pos (by omega), hw, if_pos (by omega), if_pos (by omega), if_pos (by rw [ha, hc]; omega)]
   exact ⟨_, _, _, rfl, by rw [ByteArray.size_append, ha, hc]; omega, s2⟩
  ·rw [if_neg c3]; exact hadd
 rw [if_neg c2]
 by_cases c3 : x < (s.size : Int)
 ·obtain ⟨z, i3, h3, e3, z0, _, z1, s3⟩ := l1Below_ok b i2 h2 8 s2
  have hlen : (bytesOf s).length = s.size := bytesOf_length s
  rw [if_pos c3, if_pos x0, if_pos (by rw [hlen]; exact c3)]
  simp only [e3, Option.bind_some]
  rw [if_pos z0]
  exact ⟨_, _, _, rfl, by rw [size_strOf, List.length_set, hlen]; omega, s3⟩
 ·rw [if_neg c3]; exact hadd
/-! #### FoldS -/
theorem specFold_is (s : ByteArray) (h : s.size ≤ 1099511627776) : spec_Fold.f s = some (lowS s) := by unfold spec_Fold.f; rw [if_pos h]; rfl
theorem specFoldL (l : List UInt8) (h : l.length ≤ 1048576) : spec_Fold.f (mkB l) = some (mkB (lowL l)) := by
 rw [specFold_is _ (by rw [size_mk]; omega), lowL, mk_bl]
/-! #### UptoL -/
theorem uptoL (c : UInt8) (l : List UInt8) (h : l.length ≤ 1048576) : Ev (fun k => spec_l6upto.f k (mkB l) (c.toNat : Int)) (mkB (cutB c l).1) := by
 have := upto_is c (mkB l) (by rw [size_mk]; omega)
 rw [bl_mk] at this
 exact this
/-! #### UrlReadS -/
theorem specRU_j2 (r h : List UInt8) (p : Int) (path : List UInt8) (hr : r.length ≤ 1048576) (h1 : h.length ≤ 1048576) (h2 : path.length ≤ 1048576) :
  Ev (fun k => spec_ReadUrl.j2 k (mkB r) (mkB (cutB 63 r).1) (mkB h) p (mkB path) (⟨#[]⟩ : ByteArray) false) (urlIf h p path (cutB 63 r).2.1 (cutB 63 r).2.2) := by
 have hl := cutB_lens 63 r
 have hlt := cutB_1len 63 r
 have hu := specUrlOk_is h p path (cutB 63 r).2.1 (cutB 63 r).2.2 h1 h2 (by omega)
 cases hq : (cutB 63 r).2.2
 ·have hn := (cutB_false 63 r hq).2
  rw [hq] at hlt
  rw [hq, hn] at hu
  rw [hn]
  refine Ev.step (f := fun k => (spec_UrlOk.f k (mkB h) p (mkB path) (⟨#[]⟩ : ByteArray) false).bind fun t197 => (if t197 = true then (some (mkB h, p, mkB path, (⟨#[]⟩ : ByteArray), false, true)) else (some ((⟨#[]⟩ : ByteArray), 0, (⟨#[]⟩ : ByteArray), (⟨#[]⟩ : ByteArray), false, false)))) (fun k => by rw [spec_ReadUrl.j2, if_neg (by rw [size_mk, size_mk]; have hn2 : ¬ (cutB 63 r).1.length < r.length := fun h => Bool.false_ne_true (hlt.1 h); omega)]) ?_
  refine hu.bind ?_
  unfold urlIf
  cases urlOkL h p path [] false <;> exact Ev.now _
 ·have hd := cutB_drop 63 r hq
  rw [hq] at hlt
  rw [hq] at hu
  have hlt' := hlt.2 rfl
  have hw : wrap64 (((cutB 63 r).1.length : Int) + 1) = (((cutB 63 r).1.length + 1 : Nat) : Int) := by rw [wrap_id (by omega) (by omega)]; omega
  refine Ev.step (f := fun k => (spec_UrlOk.f k (mkB h) p (mkB path) (mkB (cutB 63 r).2.1) true).bind fun t196 => (if t196 = true then (some (mkB h, p, mkB path, mkB (cutB 63 r).2.1, true, true)) else (some ((⟨#[]⟩ : ByteArray), 0, (⟨#[]⟩ : ByteArray), (⟨#[]⟩ : ByteArray), false, false)))) (fun k => by
   rw [spec_ReadUrl.j2, if_pos (by rw [size_mk, size_mk]; omega), size_mk, hw, if_pos (by omega), if_pos (by rw [size_mk]; omega), Int.toNat_natCast, drop_mk, hd]) ?_
  refine hu.bind ?_
  unfold urlIf
  cases urlOkL h p path (cutB 63 r).2.1 true <;> exact Ev.now _
theorem specRU_j1 (r h : List UInt8) (p : Int) (hr : r.length ≤ 1048576) (h1 : h.length ≤ 1048576) :
  Ev (fun k => spec_ReadUrl.j1 k (mkB r) (mkB (cutB 63 r).1) (mkB (authL r)) (mkB h) p (⟨#[47]⟩ : ByteArray) (⟨#[]⟩ : ByteArray) false) (urlIf h p (pathR (behL r)) (cutB 63 (behL r)).2.1 (cutB 63 (behL r)).2.2) := by
 have hpl := part_lens r
 have hcl := cutB_lens 63 (behL r)
 obtain ⟨f1, f2⟩ := front_is r
 have hcl2 := cutB_lens 63 r
 rw [← f2]
 by_cases h0 : (cutB 63 (behL r)).1 = []
 ·have e : pathR (behL r) = [47] := by unfold pathR; rw [if_pos h0]
  have hj := specRU_j2 r h p [47] hr h1 (by simp)
  rw [e]
  refine Ev.step (fun k => ?_) hj
  rw [spec_ReadUrl.j1, if_neg (by rw [size_mk, size_mk, f1, h0, List.append_nil]; omega)]
  rfl
 ·have e : pathR (behL r) = cleanL (cutB 63 (behL r)).1 := by unfold pathR; rw [if_neg h0]
  have hpos : 0 < (cutB 63 (behL r)).1.length := List.length_pos_iff.2 h0
  have hj := specRU_j2 r h p (cleanL (cutB 63 (behL r)).1) hr h1 (by have := cleanL_len (cutB 63 (behL r)).1; omega)
  rw [e]
  have hlen : (cutB 63 r).1.length = (authL r).length + (cutB 63 (behL r)).1.length := by rw [f1, List.length_append]
  refine Ev.step (f := fun k => (spec_CleanPath.f k (mkB (cutB 63 (behL r)).1)).bind fun t195 => (spec_ReadUrl.j2 k (mkB r) (mkB (cutB 63 r).1) (mkB h) p t195 (⟨#[]⟩ : ByteArray) false)) (fun k => by
   rw [spec_ReadUrl.j1, if_pos (by rw [size_mk, size_mk, hlen]; omega), size_mk, if_pos (by omega), if_pos (by rw [size_mk, hlen]; omega), Int.toNat_natCast, drop_mk]
   rw [show (cutB 63 r).1.drop (authL r).length = (cutB 63 (behL r)).1 by rw [f1]; simp]) ?_
  have hc := specCleanPath_is (mkB (cutB 63 (behL r)).1) (by rw [size_mk]; omega)
  rw [bl_mk] at hc
  exact hc.bind hj
theorem specRU_j0 (s : List UInt8) (hs : s.length ≤ 1048576) (h7 : 7 ≤ s.length) : Ev (fun k => spec_ReadUrl.j0 k (mkB s) false) (restR (s.drop 7)) := by
 have hrl : (s.drop 7).length ≤ 1048576 := by rw [List.length_drop]; omega
 refine Ev.step (f := fun k => (spec_l6upto.f k (mkB (s.drop 7)) 63).bind fun t188 => ((spec_l6upto.f k t188 47).bind fun t189 => ((spec_l6upto.f k t189 58).bind fun t190 => ((spec_Fold.f t190).bind fun t191 => (if (t190.size : Int) < (t189.size : Int) then (if 0 ≤ (wrap64 ((t190.size : Int) + 1)) then (if (wrap64 ((t190.size : Int) + 1)) ≤ (t189.size : Int) then ((spec_ReadDec.f k (t189.extract ((wrap64 ((t190.size : Int) + 1)) : Int).toNat t189.size)).bind fun bt193 => (if bt193.2 = true then (spec_ReadUrl.j1 k (mkB (s.drop 7)) t188 t189 t191 bt193.1 (⟨#[47]⟩ : ByteArray) (⟨#[]⟩ : ByteArray) false) else (some ((⟨#[]⟩ : ByteArray), 0, (⟨#[]⟩ : ByteArray), (⟨#[]⟩ : ByteArray), false, false)))) else (none)) else (none)) else (spec_ReadUrl.j1 k (mkB (s.drop 7)) t188 t189 t191 80 (⟨#[47]⟩ : ByteArray) (⟨#[]⟩ : ByteArray) false)))))) (fun k => by
  rw [spec_ReadUrl.j0, if_neg Bool.false_ne_true, if_pos (by rw [size_mk]; omega), drop_mk]) ?_
 generalize s.drop 7 = r at hrl ⊢
 obtain ⟨f1, f2⟩ := front_is r
 have hpl := part_lens r
 have hcl := cutB_lens 63 r
 have hal := cutB_lens 58 (authL r)
 refine (uptoL 63 r hrl).bind ?_
 have ha : (cutB 47 (cutB 63 r).1).1 = authL r := by rw [f1, auth_is]
 have hu2 := uptoL 47 (cutB 63 r).1 (by omega)
 rw [ha] at hu2
 refine hu2.bind ?_
 refine (uptoL 58 (authL r) (by omega)).bind ?_
 rw [specFoldL _ (by omega)]
 simp only [Option.bind_some, size_mk]
 have hlt := cutB_1len 58 (authL r)
 unfold restR
 cases hp : (cutB 58 (authL r)).2.2
 ·rw [hp] at hlt
  simp only [if_neg (show ¬ ((cutB 58 (authL r)).1.length : Int) < ((authL r).length : Int) by have hn2 : ¬ (cutB 58 (authL r)).1.length < (authL r).length := fun h => Bool.false_ne_true (hlt.1 h); omega), Bool.false_eq_true, if_false]
  exact specRU_j1 r _ 80 hrl (by rw [lowL_len]; omega)
 ·rw [hp] at hlt
  have hlt' := hlt.2 rfl
  have hd := cutB_drop 58 (authL r) hp
  have hw : wrap64 (((cutB 58 (authL r)).1.length : Int) + 1) = (((cutB 58 (authL r)).1.length + 1 : Nat) : Int) := by rw [wrap_id (by omega) (by omega)]; omega
  have hx : (mkB (authL r)).extract ((cutB 58 (authL r)).1.length + 1) (authL r).length = mkB (cutB 58 (authL r)).2.1 := by
   have := drop_mk (authL r) ((cutB 58 (authL r)).1.length + 1)
   rw [size_mk] at this; rw [this, hd]
  simp only [if_pos (show ((cutB 58 (authL r)).1.length : Int) < ((authL r).length : Int) by omega), hw, if_pos (show (0 : Int) ≤ (((cutB 58 (authL r)).1.length + 1 : Nat) : Int) by omega), if_pos (show (((cutB 58 (authL r)).1.length + 1 : Nat) : Int) ≤ ((authL r).length : Int) by omega), Int.toNat_natCast, hx, if_true]
  refine (specReadDec_is _ (by omega)).bind ?_
  cases hok : (rdec (cutB 58 (authL r)).2.1).2
  ·simp only [Bool.false_eq_true, if_false]; exact Ev.now _
  ·simp only [if_true]
   exact specRU_j1 r _ _ hrl (by rw [lowL_len]; omega)
theorem specReadUrl_is (s : List UInt8) (hs : s.length ≤ 1048576) : Ev (fun k => spec_ReadUrl.f k (mkB s)) (readUrlR s) := by
 have hj : Ev (fun k => spec_ReadUrl.j0 k (mkB s) true) noUrl := Ev.step (f := fun _ => some noUrl) (fun k => by rw [spec_ReadUrl.j0, if_pos rfl]; rfl) (Ev.now _)
 unfold spec_ReadUrl.f readUrlR
 rw [size_mk]
 by_cases h200 : s.length ≤ 200
 ·simp only [if_neg (show ¬ (s.length : Int) > 200 by omega)]
  by_cases h8 : (s.length : Int) < 8
  ·simp only [if_pos h8]
   by_cases hh : headR s = true
   ·rw [if_pos hh]
    unfold headR at hh
    simp only [Bool.and_eq_true, decide_eq_true_eq] at hh
    have : s.drop 7 = [] := List.drop_eq_nil_of_le (by omega)
    rw [this, restR_nil]; exact hj
   ·rw [if_neg hh]; exact hj
  ·simp only [if_neg h8]
   refine (specVisible_is (mkB s) (by rw [size_mk]; omega)).bind ?_
   rw [bl_mk, size_mk, decide_eq_true (show 1 ≤ s.length by omega), Bool.and_true]
   unfold headR
   rw [decide_eq_true h200, decide_eq_true (show 7 ≤ s.length by omega)]
   cases hv : s.all visB
   ·simpa using hj
   ·simp only [if_true, Bool.true_and, Bool.and_true]
    refine (uptoL 35 s hs).bind ?_
    rw [toList_mk, toList_mk]
    rw [← cutB_whole 35 s]
    by_cases hc : (cutB 35 s).1 = s
    ·simp only [if_pos hc, decide_eq_true hc, Bool.true_and, if_pos (show (0 : Int) ≤ 7 by decide), if_pos (show (7 : Int) ≤ (s.length : Int) by omega), take_mk]
     rw [specFoldL _ (by rw [List.length_take]; omega)]
     simp only [Option.bind_some, toList_mk]
     by_cases hb : lowL (s.take 7) = [104, 116, 116, 112, 58, 47, 47]
     ·rw [decide_eq_true hb, if_pos rfl, hb]
      exact specRU_j0 s hs (by omega)
     ·rw [decide_eq_false hb, if_neg Bool.false_ne_true, bne_iff_ne.2 hb]
      exact hj
    ·simp only [if_neg hc, decide_eq_false hc, Bool.false_and, Bool.false_eq_true, if_false]; exact hj
 ·simp only [if_pos (show (s.length : Int) > 200 by omega)]
  rw [if_neg (by unfold headR; rw [decide_eq_false h200]; simp)]
  exact hj
/-! #### DrawUrlD -/
theorem readUrlR_sz (s : List UInt8) : ∃ (h : List UInt8) (n : Nat) (path q : List UInt8) (hq ok : Bool), readUrlR s = (mkB h, (n : Int), mkB path, mkB q, hq, ok) ∧ h.length ≤ 60 ∧ n ≤ 65535 ∧ path.length ≤ 200 ∧ q.length ≤ 200 := by
 rcases readUrlR_cases s with e | ⟨h, p, path, q, hq, hu, e⟩
 ·exact ⟨[], 0, [], [], false, false, e, by decide, by decide, by decide, by decide⟩
 ·obtain ⟨n, rfl, hn, hh, h2, h3⟩ := urlOkL_port hu
  exact ⟨h, n, path, q, hq, true, e, (host_pieces hh).1, hn, h2, h3⟩
def UrlSz (r : ByteArray × Int × ByteArray × ByteArray × Bool × Int × Int) : Prop := r.1.size ≤ 100000 ∧ r.2.2.1.size ≤ 100000 ∧ r.2.2.2.1.size ≤ 100000
theorem l7draw_ok (b : List Int) (i h : Int) (hs : StOk b i) : ∃ r, Ev (fun k => spec_l7draw.f k b i h) r ∧ UrlSz r := by
 unfold spec_l7draw.f
 obtain ⟨u, i1, h1, e1, u1, s1⟩ := l7url_ok b i h hs
 obtain ⟨a, n, pa, q, hq, ok, er, ha, hn, hp, hql⟩ := readUrlR_sz (bl u)
 have hr := specReadUrl_is (bl u) (by rw [size_bl]; omega)
 rw [mk_bl, er] at hr
 obtain ⟨o, i2, h2, e2, s2⟩ := l1Once_ok b i1 h1 4 s1
 have za : (mkB a).size ≤ 100000 := by rw [size_mk]; omega
 have zp : (mkB pa).size ≤ 100000 := by rw [size_mk]; omega
 have zq : (mkB q).size ≤ 100000 := by rw [size_mk]; omega
 cases o
 ·refine ⟨(mkB a, (n : Int), mkB pa, mkB q, hq, i2, h2), e1.bind (hr.bind ?_), za, zp, zq⟩
  simp only [e2, Option.bind_some, Bool.false_eq_true, if_false]; exact Ev.now _
 obtain ⟨x, i3, h3, e3, x0, _, x1, s3⟩ := l1Below_ok b i2 h2 7 s2
 by_cases c0 : x = 0
 ·obtain ⟨r, i4, h4, e4, r4, s4⟩ := l1bend_ok b i3 h3 (mkB a) za s3
  refine ⟨(r, (n : Int), mkB pa, mkB q, hq, i4, h4), e1.bind (hr.bind ?_), by rw [size_mk] at r4; show r.size ≤ 100000; omega, zp, zq⟩
  simp only [e2, Option.bind_some, if_true, e3, if_pos c0, e4]; exact Ev.now _
 by_cases c1 : x = 1
 ·obtain ⟨y, i4, h4, e4, y0, _, y1, s4⟩ := l1Below_ok b i3 h3 5 s3
  have y2 := y1 (by omega)
  have ep : spec_l1PickInt.f b i3 h3 [0, 1, 65535, 65536, -1] = some (rd [0, 1, 65535, 65536, -1] y, i4, h4) := by
   unfold spec_l1PickInt.f
   rw [show (([0, 1, 65535, 65536, -1] : List Int).length : Int) = 5 from rfl, e4]
   simp only [Option.bind_some, if_pos y0, if_pos y2]
  refine ⟨(mkB a, rd [0, 1, 65535, 65536, -1] y, mkB pa, mkB q, hq, i4, h4), e1.bind (hr.bind ?_), za, zp, zq⟩
  simp only [e2, Option.bind_some, if_true, e3, if_neg c0, if_pos c1, ep]; exact Ev.now _
 by_cases c2 : x = 2
 ·obtain ⟨r, i4, h4, e4, r4, s4⟩ := l7path_ok b i3 h3 s3
  refine ⟨(mkB a, (n : Int), r, mkB q, hq, i4, h4), e1.bind (hr.bind ?_), za, by show r.size ≤ 100000; omega, zq⟩
  simp only [e2, Option.bind_some, if_true, e3, if_neg c0, if_neg c1, if_pos c2]
  refine e4.bind (Ev.now _)
 by_cases c3 : x = 3
 ·refine ⟨(mkB a, (n : Int), mkB pa, (⟨#[113]⟩ : ByteArray), hq, i3, h3), e1.bind (hr.bind ?_), za, zp, by show (⟨#[113]⟩ : ByteArray).size ≤ 100000; decide⟩
  simp only [e2, Option.bind_some, if_true, e3, if_neg c0, if_neg c1, if_neg c2, if_pos c3]; exact Ev.now _
 by_cases c4 : x = 4
 ·refine ⟨(mkB a, (n : Int), mkB pa, mkB q, !hq, i3, h3), e1.bind (hr.bind ?_), za, zp, zq⟩
  simp only [e2, Option.bind_some, if_true, e3, if_neg c0, if_neg c1, if_neg c2, if_neg c3, if_pos c4]; exact Ev.now _
 obtain ⟨y, i4, h4, e4, y0, _, y1, s4⟩ := l1Below_ok b i3 h3 2 s3
 have y2 := y1 (by omega)
 by_cases c5 : x = 5
 ·have ht := specText_is a n pa q hq (by omega) (by omega) (by omega) (by omega)
  have htl : (urlL a n pa q hq).length ≤ 1000 := by
   have := portL_len n (by omega)
   have := queryL_len q hq
   unfold urlL
   simp only [List.length_append, show httpB.length = 7 from rfl]
   omega
  have hw : wrap64 ((wrap64 ((wrap64 ((wrap64 (200 - ((urlL a n pa q hq).length : Int))) + (pa.length : Int))) - 1)) + y) = 200 - ((urlL a n pa q hq).length : Int) + (pa.length : Int) - 1 + y := by
   rw [wrap_id (a := 200 - ((urlL a n pa q hq).length : Int)) (by omega) (by omega), wrap_id (a := 200 - ((urlL a n pa q hq).length : Int) + (pa.length : Int)) (by omega) (by omega), wrap_id (a := 200 - ((urlL a n pa q hq).length : Int) + (pa.length : Int) - 1) (by omega) (by omega), wrap_id (by omega) (by omega)]
  obtain ⟨t, i5, h5, e5, t5, s5⟩ := l1of_ok b i4 h4 (200 - ((urlL a n pa q hq).length : Int) + (pa.length : Int) - 1 + y) (⟨#[112]⟩ : ByteArray) (by decide) (by omega) s4
  refine ⟨(mkB a, (n : Int), (⟨#[47]⟩ : ByteArray) ++ t, mkB q, hq, i5, h5), e1.bind (hr.bind ?_), za, by show ((⟨#[47]⟩ : ByteArray) ++ t).size ≤ 100000; rw [ByteArray.size_append]; show 1 + t.size ≤ 100000; omega, zq⟩
  simp only [e2, Option.bind_some, if_true, e3, if_neg c0, if_neg c1, if_neg c2, if_neg c3, if_neg c4, if_pos c5]
  refine ht.bind ?_
  simp only [e4, Option.bind_some, size_mk, hw]
  refine e5.bind ?_
  simp only [if_pos (show 1 + t.size ≤ 9223372036854775807 by omega)]; exact Ev.now _
 ·have hw : wrap64 (60 + y) = 60 + y := wrap_id (by omega) (by omega)
  obtain ⟨t, i5, h5, e5, t5, s5⟩ := l1of_ok b i4 h4 (60 + y) (⟨#[104]⟩ : ByteArray) (by decide) (by omega) s4
  refine ⟨(t, (n : Int), mkB pa, mkB q, hq, i5, h5), e1.bind (hr.bind ?_), by show t.size ≤ 100000; omega, zp, zq⟩
  simp only [e2, Option.bind_some, if_true, e3, if_neg c0, if_neg c1, if_neg c2, if_neg c3, if_neg c4, if_neg c5, e4, hw]
  refine e5.bind (Ev.now _)
theorem drawUrl_ok (l : List Int) (hl : l.length ≤ 9223372036854775807) : ∃ (a pa q : List UInt8) (p : Int) (hq : Bool), Ev (fun k => spec_DrawUrlText.f k l) (mkB a, p, mkB pa, mkB q, hq) ∧ a.length ≤ 100000 ∧ pa.length ≤ 100000 ∧ q.length ≤ 100000 := by
 unfold spec_DrawUrlText.f
 obtain ⟨h0, e0⟩ := l1New_ok l hl
 obtain ⟨r, e1, z1, z2, z3⟩ := l7draw_ok l 0 h0 (StOk_new l hl)
 refine ⟨bl r.1, bl r.2.2.1, bl r.2.2.2.1, r.2.1, r.2.2.2.2.1, ?_, by rw [size_bl]; exact z1, by rw [size_bl]; exact z2, by rw [size_bl]; exact z3⟩
 rw [mk_bl, mk_bl, mk_bl]
 exact e0.bind (e1.bind (Ev.now _))
theorem implUrlTxt_bad (h : List UInt8) (p : Int) (path q : List UInt8) (hq : Bool) (h1 : h.length ≤ 1048576) (h2 : path.length ≤ 1048576) (h3 : q.length ≤ 1048576) (hu : urlOkL h p path q hq = false) :
  Ev (fun k => impl_UrlText.f k (mkB h) p (mkB path) (mkB q) hq) (⟨#[]⟩ : ByteArray) := by
 unfold impl_UrlText.f
 refine (implUrlOk_is h p path q hq h1 h2 h3).bind ?_
 simp only [hu, Bool.false_eq_true, if_false]
 exact Ev.now _
theorem FnUrls : laws_FnUrls.Pure := by
 intro l ⟨hl, _⟩
 refine Ev.rounds ?_
 unfold laws_FnUrls.f
 obtain ⟨a, pa, q, p, hq, hd, z1, z2, z3⟩ := drawUrl_ok l hl
 refine hd.bind ?_
 refine (specUrlOk_is a p pa q hq (by omega) (by omega) (by omega)).bind ?_
 have hS := implSurt_is a p pa q hq (by omega) (by omega) (by omega)
 have hend : Ev (fun k => (laws_places.f k).bind fun t => some t) true := places_is.bind (Ev.now _)
 cases hu : urlOkL a p pa q hq
 ·have e : surtL a p pa q hq = [] := by unfold surtL; rw [if_neg (by rw [hu]; exact Bool.false_ne_true)]
  rw [e] at hS
  simp only [Bool.false_eq_true, if_false]
  refine (implUrlTxt_bad a p pa q hq (by omega) (by omega) (by omega) hu).bind ?_
  simp only [if_pos (show (⟨#[]⟩ : ByteArray).toList = ([] : List UInt8) from toList_mk [])]
  refine hS.bind ?_
  simp only [toList_mk, if_true]
  exact hend
 ·obtain ⟨n, rfl, hn, hh, h2, h3⟩ := urlOkL_port hu
  have hlen := (urlOkL_parts hu).2.2.2.2
  simp only [if_true]
  refine (implUrlTxt_is a n pa q hq hu).bind ?_
  have hR := implReadUrl_is (urlL a n pa q hq) (by omega)
  rw [readUrl_back hu] at hR
  refine hR.bind ?_
  refine hS.bind ?_
  have hU := implUnsurt_is (surtL a (n : Int) pa q hq) (by have := (surt_back hu).2.2; omega)
  rw [unsurt_back hu] at hU
  refine hU.bind ?_
  simp only [if_true, beq_self_eq_true, Bool.and_self]
  exact hend

end Go.Proofs.YtkkolioolgpljaaGreatDoor.Pure
