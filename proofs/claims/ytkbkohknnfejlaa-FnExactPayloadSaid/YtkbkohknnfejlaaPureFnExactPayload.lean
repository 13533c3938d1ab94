/- Payload of the program and of the reference agree, and the call returns true, for every string. No condition. -/
import Derived.Test.YtkbkohknnfejlaaGFnExactPayloadx1
import Derived.Laws.Strings
import Derived.Lib.Index
import Derived.OpenShut
namespace Go.Proofs.Ytkbkohknnfejlaa.Pure
open Go.RowKit Go.Proofs.Ytkbkohknnfejlaa.GFnExactPayload Go.Proofs.YtkbkohknnfejlaaW.PrintWords Go.Proofs.YtkbkohknnfejlaaW.PrintLast Go.Proofs.YtkbkohknnfejlaaW.PrintMore
set_option linter.unusedVariables false
set_option linter.unusedSimpArgs false

/-! #### Bytes -/
/-- More rounds: an Ev of a function of its own. -/
theorem Ev.mono1 {α : Type} {g : Nat → Option α} {r : α} (K : Nat) (h : ∀ k, g (k + K) = some r) : Ev g r :=
  ⟨K, fun k hk => by obtain ⟨m, rfl⟩ : ∃ m, k = m + K := ⟨k - K, by omega⟩; exact h m⟩
theorem toList_inj {a b : ByteArray} (h : a.toList = b.toList) : a = b := by
  rw [ByteArray.toList_eq, ByteArray.toList_eq] at h
  cases a; cases b; simp_all
theorem getD_mid {α : Type} (pre : List α) (x : α) (r : List α) (z : α) : (pre ++ x :: r).getD ((pre.length : Int).toNat) z = x := by simp [List.getD]
theorem wrap_succ {n : Nat} (h : n < 9223372036854775807) : wrap64 ((n : Int) + 1) = ((n + 1 : Nat) : Int) := by unfold wrap64; omega
theorem wrap_id {a : Int} (h1 : -9223372036854775808 ≤ a) (h2 : a ≤ 9223372036854775807) : wrap64 a = a := by unfold wrap64; omega
theorem len_mid {α : Type} (pre : List α) (x : α) (r : List α) : (pre.length : Int) < ((pre ++ x :: r).length : Int) := by simp; omega
theorem app_mid {α : Type} (pre : List α) (x : α) (r : List α) : pre ++ x :: r = (pre ++ [x]) ++ r := by simp
theorem len_snoc {α : Type} (pre : List α) (x : α) : ((pre ++ [x]).length : Int) = (pre.length : Int) + 1 := by simp
theorem toList_length (s : ByteArray) : s.toList.length = s.size := by rw [ByteArray.toList_eq, Array.length_toList]; rfl
theorem size_pos_iff (s : ByteArray) : (s.toList = ([] : List UInt8)) ↔ (s.size : Int) = 0 := by
  rw [← List.length_eq_zero_iff, toList_length]; omega
theorem size_strOf (xs : List Int) : (strOfNums xs).size = xs.length := by
  show (strOfNums xs).data.size = _
  simp [strOfNums]
theorem length_bytesOf (s : ByteArray) : (bytesOf s).length = s.size := bytesOf_length s
theorem less_irrefl : ∀ l : List UInt8, Op.bytesLess l l = false
  | [] => rfl
  | a :: l => by simp [Op.bytesLess, less_irrefl l]
theorem less_total : ∀ l m : List UInt8, l ≠ m → Op.bytesLess l m = !Op.bytesLess m l
  | [], [], h => absurd rfl h
  | [], _ :: _, _ => rfl
  | _ :: _, [], _ => rfl
  | a :: l, b :: m, h => by
    by_cases e : a = b
    · subst e
      have := less_total l m (fun e => h (by rw [e]))
      simp [Op.bytesLess, this]
    · have hne : (a == b) = false := by simpa using e
      have hne' : (b == a) = false := by simpa using fun x => e x.symm
      simp only [Op.bytesLess, hne, hne', Bool.false_and, Bool.or_false]
      rcases Nat.lt_trichotomy a.toNat b.toNat with h1 | h1 | h1
      · have x1 : a < b := UInt8.lt_iff_toNat_lt.2 h1
        have x2 : ¬ b < a := fun x => by have := UInt8.lt_iff_toNat_lt.1 x; omega
        simp [x1, x2]
      · exact absurd (UInt8.toNat_inj.1 h1) e
      · have x1 : b < a := UInt8.lt_iff_toNat_lt.2 h1
        have x2 : ¬ a < b := fun x => by have := UInt8.lt_iff_toNat_lt.1 x; omega
        simp [x1, x2]

/-! #### Str -/
def mkB (l : List UInt8) : ByteArray := ⟨l.toArray⟩
def bl (s : ByteArray) : List UInt8 := s.data.toList
theorem mk_bl (s : ByteArray) : mkB (bl s) = s := by cases s; simp [mkB, bl]
theorem bl_mk (l : List UInt8) : bl (mkB l) = l := by simp [mkB, bl]
theorem size_mk (l : List UInt8) : (mkB l).size = l.length := by show (mkB l).data.size = _; simp [mkB]
theorem size_bl (s : ByteArray) : (bl s).length = s.size := by rw [bl, Array.length_toList]; rfl
theorem toList_bl (s : ByteArray) : s.toList = bl s := ByteArray.toList_eq s
theorem toList_mk (l : List UInt8) : (mkB l).toList = l := by rw [toList_bl, bl_mk]
theorem mkB_inj {l m : List UInt8} (h : mkB l = mkB m) : l = m := by rw [← bl_mk l, h, bl_mk]
theorem getB (l : List UInt8) (i : Nat) (h : i < (mkB l).size) : (mkB l)[i]'h = l[i]'(by rwa [size_mk] at h) := by
  show (mkB l).data[i]'h = _
  simp [mkB]
theorem bt_at_ (l : List UInt8) (i : Nat) (h : i < l.length) : bt (mkB l) (i : Int) = ((l[i]'h).toNat : Int) := by
  unfold bt
  rw [dif_pos (by rw [size_mk]; simpa using h), getB]
  simp
theorem bt_mid (pre : List UInt8) (b : UInt8) (r : List UInt8) : bt (mkB (pre ++ b :: r)) (pre.length : Int) = (b.toNat : Int) := by
  rw [bt_at_ _ _ (by simp)]
  simp
theorem extract_mk (l : List UInt8) (i j : Nat) : (mkB l).extract i j = mkB ((l.drop i).take (j - i)) := by
  apply toList_inj
  rw [toList_mk, toList_bl, bl, ByteArray.data_extract, Array.toList_extract]
  simp [mkB, List.extract]
theorem size_lt_mid (pre : List UInt8) (b : UInt8) (r : List UInt8) : (pre.length : Int) < ((mkB (pre ++ b :: r)).size : Int) := by rw [size_mk]; exact len_mid ..
theorem u8_lt (b : UInt8) : (b.toNat : Int) < 256 := by have := b.toNat_lt; omega
theorem toUInt8_toNat (b : UInt8) : ((b.toNat : Int)).toNat.toUInt8 = b := by simp
/-- 'for all bytes', as a loop over a string's places. -/
theorem all_loop (F : Nat → ByteArray → Int → Option Bool) (G : Nat → Int → Option Bool) (p : UInt8 → Bool) (hG : ∀ b : UInt8, Ev (fun k => G k b.toNat) (p b))
    (hF : ∀ k s i, F (k + 1) s i = if i < (s.size : Int) then (if 0 ≤ i then (G k (bt s i)).bind fun t => (if t = true then F k s (wrap64 (i + 1)) else some false) else none) else some true) :
    ∀ (r pre : List UInt8), (pre ++ r).length ≤ 9223372036854775806 → Ev (fun k => F k (mkB (pre ++ r)) pre.length) (r.all p)
  | [], pre, _ => Ev.step (f := fun _ => some true) (fun k => by rw [hF, size_mk]; simp) (Ev.now _)
  | b :: r, pre, hl => by
    have ih := all_loop F G p hG hF r (pre ++ [b]) (by rw [← app_mid]; exact hl)
    rw [← app_mid, len_snoc] at ih
    simp at hl
    refine Ev.step (f := fun k => (G k b.toNat).bind fun t => (if t = true then F k (mkB (pre ++ b :: r)) (pre.length + 1) else some false)) (fun k => ?_) ?_
    · rw [hF, if_pos (size_lt_mid ..), if_pos (by omega), bt_mid, wrap_id (by omega) (by omega)]
    refine (hG b).bind ?_
    cases hp : p b
    · simpa [List.all_cons, hp] using Ev.now false
    · simpa [List.all_cons, hp] using ih
theorem all_ev (F : Nat → ByteArray → Int → Option Bool) (G : Nat → Int → Option Bool) (p : UInt8 → Bool) (hG : ∀ b : UInt8, Ev (fun k => G k b.toNat) (p b))
    (hF : ∀ k s i, F (k + 1) s i = if i < (s.size : Int) then (if 0 ≤ i then (G k (bt s i)).bind fun t => (if t = true then F k s (wrap64 (i + 1)) else some false) else none) else some true)
    (s : ByteArray) (hs : s.size ≤ 9223372036854775806) : Ev (fun k => F k s 0) ((bl s).all p) := by
  have := all_loop F G p hG hF (bl s) [] (by simpa [size_bl] using hs)
  simpa [mk_bl] using this
theorem Ev.const {α : Type} {x : Option α} {r : α} (h : x = some r) : Ev (fun _ => x) r := ⟨0, fun _ _ => h⟩

/-! #### Index -/
theorem index_short : ∀ (l sub : List UInt8), l.length < sub.length → Lib.index l sub = -1
  | [], sub, h => by cases sub <;> simp [Lib.index] at *
  | b :: l, sub, h => by
    have ih := index_short l sub (by simp at h; omega)
    have hp : sub.isPrefixOf (b :: l) = false := by
      rw [Bool.eq_false_iff]; intro hp
      have := (List.isPrefixOf_iff_prefix.1 hp).length_le
      omega
    simp [Lib.index, hp, ih]
theorem index_bound : ∀ (l sub : List UInt8), Lib.index l sub = -1 ∨ (0 ≤ Lib.index l sub ∧ Lib.index l sub + sub.length ≤ l.length)
  | [], sub => by cases sub <;> simp [Lib.index]
  | b :: l, sub => by
    unfold Lib.index
    by_cases hp : sub.isPrefixOf (b :: l) = true
    · have := (List.isPrefixOf_iff_prefix.1 hp).length_le
      rw [if_pos hp]; right; simp at this ⊢; omega
    · rw [if_neg hp]
      rcases index_bound l sub with h | h
      · left; simp [h]
      · right
        have : (Lib.index l sub == -1) = false := by simp; omega
        rw [this]; simp; omega

/-! #### HeadEnd -/
def crlf2 : List UInt8 := [13, 10, 13, 10]
/-- Where a head ends, or -1. -/
def headEnd (l : List UInt8) : Int := if Lib.index l crlf2 = -1 then -1 else Lib.index l crlf2 + 4
theorem split_go : ∀ (r pre : List UInt8), (pre ++ r).length ≤ 9223372036854775000 →
    Ev (fun k => spec_l8split.l0 k (mkB (pre ++ r)) pre.length) (if Lib.index r crlf2 = -1 then -1 else pre.length + Lib.index r crlf2 + 4)
  | [], pre, hl => by
    simp at hl
    refine Ev.step (f := fun _ => some (-1)) (fun k => ?_) (by simpa [Lib.index, crlf2] using Ev.now (-1 : Int))
    simp only [spec_l8split.l0]
    rw [wrap_id (by omega) (by omega), if_neg (by rw [size_mk]; simp <;> omega)]
  | b :: r, pre, hl => by
    have hl2 := hl
    simp at hl2
    by_cases hs : (b :: r).length < 4
    · have hi : Lib.index (b :: r) crlf2 = -1 := index_short _ _ hs
      refine Ev.step (f := fun _ => some (-1)) (fun k => ?_) (by simpa [hi] using Ev.now (-1 : Int))
      simp at hs
      simp only [spec_l8split.l0]
      rw [wrap_id (by omega) (by omega), if_neg (by rw [size_mk]; simp <;> omega)]
    · have ih := split_go r (pre ++ [b]) (by rw [← app_mid]; exact hl)
      rw [← app_mid, len_snoc] at ih
      simp at hs
      have hex : ((mkB (pre ++ b :: r)).extract ((pre.length : Int)).toNat (((pre.length : Int) + 4) : Int).toNat).toList = (b :: r).take 4 := by
        rw [extract_mk, toList_mk]
        have : (((pre.length : Int) + 4) : Int).toNat - ((pre.length : Int)).toNat = 4 := by omega
        rw [this]; simp
      have hcell : ∀ k, spec_l8split.l0 (k + 1) (mkB (pre ++ b :: r)) pre.length = if (b :: r).take 4 = crlf2 then some ((pre.length : Int) + 4) else spec_l8split.l0 k (mkB (pre ++ b :: r)) (pre.length + 1) := by
        intro k
        simp only [spec_l8split.l0]
        rw [wrap_id (a := (pre.length : Int) + 4) (by omega) (by omega), wrap_id (a := (pre.length : Int) + 1) (by omega) (by omega), if_pos (by rw [size_mk]; simp <;> omega), if_pos (by omega), if_pos (size_lt_mid ..), bt_mid, hex]
        by_cases hb : (b.toNat : Int) = 13
        · rw [if_pos hb, if_pos (by omega)]; rfl
        · rw [if_neg hb, if_neg]
          intro h
          have : b = 13 := by
            have := congrArg List.head? h
            simpa [crlf2] using this
          subst this; exact hb rfl
      have hpre : crlf2.isPrefixOf (b :: r) = decide ((b :: r).take 4 = crlf2) := by
        rw [Bool.eq_iff_iff, List.isPrefixOf_iff_prefix, decide_eq_true_iff, List.prefix_iff_eq_take]
        constructor
        · intro h; exact h.symm
        · intro h; exact h.symm
      by_cases h4 : (b :: r).take 4 = crlf2
      · have hi : Lib.index (b :: r) crlf2 = 0 := by unfold Lib.index; rw [hpre, if_pos (decide_eq_true h4)]
        refine Ev.step (f := fun _ => some ((pre.length : Int) + 4)) (fun k => by rw [hcell, if_pos h4]) ?_
        rw [hi]; simpa using Ev.now ((pre.length : Int) + 4)
      · have hi : Lib.index (b :: r) crlf2 = if Lib.index r crlf2 = -1 then -1 else Lib.index r crlf2 + 1 := by
          rw [Lib.index, hpre, decide_eq_false h4, if_neg (by simp)]
          by_cases hm : Lib.index r crlf2 = -1 <;> simp [hm]
        refine Ev.step (f := fun k => spec_l8split.l0 k (mkB (pre ++ b :: r)) (pre.length + 1)) (fun k => by rw [hcell, if_neg h4]) ?_
        rw [hi]
        have hbd := index_bound r crlf2
        by_cases hm : Lib.index r crlf2 = -1
        · simpa [hm] using ih
        · rw [if_neg hm] at ih ⊢
          rw [if_neg (by omega)]
          have e : (pre.length : Int) + (Lib.index r crlf2 + 1) + 4 = (pre.length : Int) + 1 + Lib.index r crlf2 + 4 := by omega
          rw [e]; exact ih
theorem split_is (s : ByteArray) (hs : s.size ≤ 9223372036854775000) : Ev (fun k => spec_l8split.f k s) (headEnd (bl s)) := by
  have := split_go (bl s) [] (by simpa [size_bl] using hs)
  simpa [mk_bl, spec_l8split.f, headEnd] using this
theorem headEnd_bound (l : List UInt8) : headEnd l = -1 ∨ (4 ≤ headEnd l ∧ headEnd l ≤ l.length) := by
  unfold headEnd
  have := index_bound l crlf2
  have e : crlf2.length = 4 := rfl
  split <;> omega
theorem divided_is (s : ByteArray) (hs : s.size < 4294967281) : impl_divided.f s = some (if headEnd (bl s) < 0 then ((⟨#[]⟩ : ByteArray), (⟨#[]⟩ : ByteArray), false) else (s.extract 0 (headEnd (bl s)).toNat, s.extract (headEnd (bl s)).toNat s.size, true)) := by
  have hx : strings_Index.f s (⟨#[13, 10, 13, 10]⟩ : ByteArray) = some (Lib.index (bl s) crlf2) := by
    unfold strings_Index.f; rw [if_pos hs]; rfl
  unfold impl_divided.f
  rw [hx]
  simp only [Option.bind_some]
  have hb := index_bound (bl s) crlf2
  have e : crlf2.length = 4 := rfl
  rw [size_bl] at hb
  by_cases h : Lib.index (bl s) crlf2 = -1
  · rw [if_pos (by omega), headEnd, if_pos h, if_pos (by omega)]
  · rw [if_neg (by omega), wrap_id (by omega) (by omega), if_pos (by omega), if_pos (by omega), headEnd, if_neg h, if_neg (by omega)]

theorem FnExactPayload : laws_FnExactPayload.Pure := by
  intro s hs
  refine Ev.rounds ?_
  unfold laws_FnExactPayload.f
  by_cases h : (s.size : Int) > 1048576
  · simp only [if_pos h]; exact Ev.now _
  · simp only [if_neg h]
    have hb := headEnd_bound (bl s)
    rw [size_bl] at hb
    refine Ev.bind (a := if headEnd (bl s) < 0 then ((⟨#[]⟩ : ByteArray), false) else (s.extract (headEnd (bl s)).toNat s.size, true)) ?_ ?_
    · unfold spec_Payload.f
      refine (split_is s (by omega)).bind ?_
      by_cases h2 : headEnd (bl s) < 0
      · simp only [if_pos h2]; exact Ev.now _
      · simp only [if_neg h2, if_pos (show 0 ≤ headEnd (bl s) by omega), if_pos (show headEnd (bl s) ≤ (s.size : Int) by omega)]; exact Ev.now _
    unfold impl_Payload.f
    rw [divided_is s (by omega)]
    by_cases h2 : headEnd (bl s) < 0
    · simp only [if_pos h2, Option.bind_some]; simpa using Ev.now true
    · simp only [if_neg h2, Option.bind_some]; simpa using Ev.now true

end Go.Proofs.Ytkbkohknnfejlaa.Pure
