/- ChunkText of the program and of the reference agree, and the call returns true, for every text and every size. No condition. -/
import Derived.Test.YtnfjjbpochmhpaaDoorGFnExactChunkTextx2
import Derived.Laws.Strings
import Derived.OpenShut
namespace Go.Proofs.YtnfjjbpochmhpaaDoor.Pure
open Go.RowKit Go.Proofs.YtnfjjbpochmhpaaDoor.GFnExactChunkText Go.Proofs.YtnfjjbpochmhpaaDoorW.PrintWords Go.Proofs.YtnfjjbpochmhpaaDoorW.PrintLast Go.Proofs.YtnfjjbpochmhpaaDoorW.PrintMore
set_option linter.unusedVariables false
set_option linter.unusedSimpArgs false

/-! #### Bytes -/
/-- More rounds: an Ev of a function of its own. -/
theorem Ev.mono1 {α : Type} {g : Nat → Option α} {r : α} (K : Nat) (h : ∀ k, g (k + K) = some r) : Ev g r :=
  ⟨K, fun k hk => by obtain ⟨m, rfl⟩ : ∃ m, k = m + K := ⟨k - K, by omega⟩; exact h m⟩
theorem toList_inj {a b : ByteArray} (h : a.toList = b.toList) : a = b := by
  rw [ByteArray.toList_eq, ByteArray.toList_eq] at h
  cases a; cases b; simp_all
theorem getD_mid {α : Type} (pre : List α) (x : α) (r : List α) (z : α) : (pre ++ x :: r).getD ((pre.length : Int).toNat) z = x := by simp [List.getD]
theorem wrap_succ {n : Nat} (h : n < 9223372036854775807) : wrap64 ((n : Int) + 1) = ((n + 1 : Nat) : Int) := by unfold wrap64; omega
theorem wrap_id {a : Int} (h1 : -9223372036854775808 ≤ a) (h2 : a ≤ 9223372036854775807) : wrap64 a = a := by unfold wrap64; omega
theorem len_mid {α : Type} (pre : List α) (x : α) (r : List α) : (pre.length : Int) < ((pre ++ x :: r).length : Int) := by simp; omega
theorem app_mid {α : Type} (pre : List α) (x : α) (r : List α) : pre ++ x :: r = (pre ++ [x]) ++ r := by simp
theorem len_snoc {α : Type} (pre : List α) (x : α) : ((pre ++ [x]).length : Int) = (pre.length : Int) + 1 := by simp
theorem toList_length (s : ByteArray) : s.toList.length = s.size := by rw [ByteArray.toList_eq, Array.length_toList]; rfl
theorem size_pos_iff (s : ByteArray) : (s.toList = ([] : List UInt8)) ↔ (s.size : Int) = 0 := by
  rw [← List.length_eq_zero_iff, toList_length]; omega
theorem size_strOf (xs : List Int) : (strOfNums xs).size = xs.length := by
  show (strOfNums xs).data.size = _
  simp [strOfNums]
theorem length_bytesOf (s : ByteArray) : (bytesOf s).length = s.size := bytesOf_length s
theorem less_irrefl : ∀ l : List UInt8, Op.bytesLess l l = false
  | [] => rfl
  | a :: l => by simp [Op.bytesLess, less_irrefl l]
theorem less_total : ∀ l m : List UInt8, l ≠ m → Op.bytesLess l m = !Op.bytesLess m l
  | [], [], h => absurd rfl h
  | [], _ :: _, _ => rfl
  | _ :: _, [], _ => rfl
  | a :: l, b :: m, h => by
    by_cases e : a = b
    · subst e
      have := less_total l m (fun e => h (by rw [e]))
      simp [Op.bytesLess, this]
    · have hne : (a == b) = false := by simpa using e
      have hne' : (b == a) = false := by simpa using fun x => e x.symm
      simp only [Op.bytesLess, hne, hne', Bool.false_and, Bool.or_false]
      rcases Nat.lt_trichotomy a.toNat b.toNat with h1 | h1 | h1
      · have x1 : a < b := UInt8.lt_iff_toNat_lt.2 h1
        have x2 : ¬ b < a := fun x => by have := UInt8.lt_iff_toNat_lt.1 x; omega
        simp [x1, x2]
      · exact absurd (UInt8.toNat_inj.1 h1) e
      · have x1 : b < a := UInt8.lt_iff_toNat_lt.2 h1
        have x2 : ¬ a < b := fun x => by have := UInt8.lt_iff_toNat_lt.1 x; omega
        simp [x1, x2]

/-! #### Str -/
def mkB (l : List UInt8) : ByteArray := ⟨l.toArray⟩
def bl (s : ByteArray) : List UInt8 := s.data.toList
theorem mk_bl (s : ByteArray) : mkB (bl s) = s := by cases s; simp [mkB, bl]
theorem bl_mk (l : List UInt8) : bl (mkB l) = l := by simp [mkB, bl]
theorem size_mk (l : List UInt8) : (mkB l).size = l.length := by show (mkB l).data.size = _; simp [mkB]
theorem size_bl (s : ByteArray) : (bl s).length = s.size := by rw [bl, Array.length_toList]; rfl
theorem toList_bl (s : ByteArray) : s.toList = bl s := ByteArray.toList_eq s
theorem toList_mk (l : List UInt8) : (mkB l).toList = l := by rw [toList_bl, bl_mk]
theorem mkB_inj {l m : List UInt8} (h : mkB l = mkB m) : l = m := by rw [← bl_mk l, h, bl_mk]
theorem getB (l : List UInt8) (i : Nat) (h : i < (mkB l).size) : (mkB l)[i]'h = l[i]'(by rwa [size_mk] at h) := by
  show (mkB l).data[i]'h = _
  simp [mkB]
theorem bt_at_ (l : List UInt8) (i : Nat) (h : i < l.length) : bt (mkB l) (i : Int) = ((l[i]'h).toNat : Int) := by
  unfold bt
  rw [dif_pos (by rw [size_mk]; simpa using h), getB]
  simp
theorem bt_mid (pre : List UInt8) (b : UInt8) (r : List UInt8) : bt (mkB (pre ++ b :: r)) (pre.length : Int) = (b.toNat : Int) := by
  rw [bt_at_ _ _ (by simp)]
  simp
theorem extract_mk (l : List UInt8) (i j : Nat) : (mkB l).extract i j = mkB ((l.drop i).take (j - i)) := by
  apply toList_inj
  rw [toList_mk, toList_bl, bl, ByteArray.data_extract, Array.toList_extract]
  simp [mkB, List.extract]
theorem drop_mid (pre : List UInt8) (b : UInt8) (r : List UInt8) : (pre ++ b :: r).drop (pre.length + 1) = r := by
  rw [app_mid, List.drop_left' (by simp)]
theorem size_lt_mid (pre : List UInt8) (b : UInt8) (r : List UInt8) : (pre.length : Int) < ((mkB (pre ++ b :: r)).size : Int) := by rw [size_mk]; exact len_mid ..
theorem u8_lt (b : UInt8) : (b.toNat : Int) < 256 := by have := b.toNat_lt; omega
theorem toUInt8_toNat (b : UInt8) : ((b.toNat : Int)).toNat.toUInt8 = b := by simp
/-- 'for all bytes', as a loop over a string's places. -/
theorem all_loop (F : Nat → ByteArray → Int → Option Bool) (G : Nat → Int → Option Bool) (p : UInt8 → Bool) (hG : ∀ b : UInt8, Ev (fun k => G k b.toNat) (p b))
    (hF : ∀ k s i, F (k + 1) s i = if i < (s.size : Int) then (if 0 ≤ i then (G k (bt s i)).bind fun t => (if t = true then F k s (wrap64 (i + 1)) else some false) else none) else some true) :
    ∀ (r pre : List UInt8), (pre ++ r).length ≤ 9223372036854775806 → Ev (fun k => F k (mkB (pre ++ r)) pre.length) (r.all p)
  | [], pre, _ => Ev.step (f := fun _ => some true) (fun k => by rw [hF, size_mk]; simp) (Ev.now _)
  | b :: r, pre, hl => by
    have ih := all_loop F G p hG hF r (pre ++ [b]) (by rw [← app_mid]; exact hl)
    rw [← app_mid, len_snoc] at ih
    simp at hl
    refine Ev.step (f := fun k => (G k b.toNat).bind fun t => (if t = true then F k (mkB (pre ++ b :: r)) (pre.length + 1) else some false)) (fun k => ?_) ?_
    · rw [hF, if_pos (size_lt_mid ..), if_pos (by omega), bt_mid, wrap_id (by omega) (by omega)]
    refine (hG b).bind ?_
    cases hp : p b
    · simpa [List.all_cons, hp] using Ev.now false
    · simpa [List.all_cons, hp] using ih
theorem all_ev (F : Nat → ByteArray → Int → Option Bool) (G : Nat → Int → Option Bool) (p : UInt8 → Bool) (hG : ∀ b : UInt8, Ev (fun k => G k b.toNat) (p b))
    (hF : ∀ k s i, F (k + 1) s i = if i < (s.size : Int) then (if 0 ≤ i then (G k (bt s i)).bind fun t => (if t = true then F k s (wrap64 (i + 1)) else some false) else none) else some true)
    (s : ByteArray) (hs : s.size ≤ 9223372036854775806) : Ev (fun k => F k s 0) ((bl s).all p) := by
  have := all_loop F G p hG hF (bl s) [] (by simpa [size_bl] using hs)
  simpa [mk_bl] using this
theorem Ev.const {α : Type} {x : Option α} {r : α} (h : x = some r) : Ev (fun _ => x) r := ⟨0, fun _ _ => h⟩

/-! #### Hex -/
theorem mk_app (a b : List UInt8) : mkB a ++ mkB b = mkB (a ++ b) := by
  cases h : mkB a ++ mkB b with | mk d =>
  have h3 : (mkB a ++ mkB b).data.toList = a ++ b := by simp [mkB]
  rw [h] at h3
  simp only [mkB, ByteArray.mk.injEq]
  apply Array.toList_inj.1
  rw [h3]
def hexB (n : Nat) : List UInt8 := (hexI n).map fun x => UInt8.ofNat x.toNat
theorem hexB_mk (n : Nat) : strOfNums (hexI n) = mkB (hexB n) := rfl
theorem hexB_small {n : Nat} (h : n < 16) : hexB n = [UInt8.ofNat (hxI n).toNat] := by rw [hexB, hexI_small h]; rfl
theorem hexB_big {n : Nat} (h : ¬ n < 16) : hexB n = hexB (n / 16) ++ hexB (n % 16) := by
  rw [hexB, hexI_big h, List.map_append, ← hexB, hexB_small (n := n % 16) (by omega)]; rfl
theorem hexB_len (k : Nat) : ∀ n, n < 16 ^ (k + 1) → (hexB n).length ≤ k + 1 := by
  induction k with
  | zero => intro n h; rw [hexB_small (by simpa using h)]; simp
  | succ k ih =>
    intro n h
    by_cases h16 : n < 16
    · rw [hexB_small h16]; simp
    · rw [hexB_big h16, List.length_append, hexB_small (n := n % 16) (by omega)]
      have := ih (n / 16) (by rw [Nat.pow_succ] at h; omega)
      simp; omega
def hexLit : ByteArray := ⟨#[48, 49, 50, 51, 52, 53, 54, 55, 56, 57, 97, 98, 99, 100, 101, 102]⟩
theorem hexLit_at (d : Nat) (h : d < 16) : hexLit.extract d (d + 1) = mkB (hexB d) := by
  have hc : ∀ e : Fin 16, ((([48, 49, 50, 51, 52, 53, 54, 55, 56, 57, 97, 98, 99, 100, 101, 102] : List UInt8).drop e.1).take (e.1 + 1 - e.1)) = [UInt8.ofNat (hxI e.1).toNat] := by decide +kernel
  have e : hexLit = mkB [48, 49, 50, 51, 52, 53, 54, 55, 56, 57, 97, 98, 99, 100, 101, 102] := rfl
  rw [e, extract_mk, hexB_small h]
  exact congrArg mkB (hc ⟨d, h⟩)
theorem specHex_is (n : Nat) (h : n ≤ 268435455) : Ev (fun k => spec_HexText.f k (n : Int)) (mkB (hexB n)) := by
  induction n using Nat.strongRecOn with
  | _ n ih =>
    have hd : decide ((n : Int) > 268435455) = false := decide_eq_false (by omega)
    refine Ev.step (f := fun k => spec_HexText.j0 k (n : Int) false) (fun k => by simp only [spec_HexText.f]; rw [if_neg (by omega), hd]) ?_
    have e2 : Int.tmod (n : Int) 16 = ((n % 16 : Nat) : Int) := by rw [Int.tmod_eq_emod_of_nonneg (by omega)]; rfl
    have e3 : wrap64 (((n % 16 : Nat) : Int) + 1) = ((n % 16 + 1 : Nat) : Int) := by rw [wrap_id (by omega) (by omega)]; omega
    have hx : (⟨#[48, 49, 50, 51, 52, 53, 54, 55, 56, 57, 97, 98, 99, 100, 101, 102]⟩ : ByteArray).extract ((n % 16 : Nat) : Int).toNat ((n % 16 + 1 : Nat) : Int).toNat = mkB (hexB (n % 16)) := by
      rw [Int.toNat_natCast, Int.toNat_natCast]; exact hexLit_at _ (by omega)
    by_cases h16 : n < 16
    · refine Ev.step (f := fun _ => some (mkB (hexB n))) (fun k => ?_) (Ev.now _)
      simp only [spec_HexText.j0, Bool.false_eq_true, if_false, e2, e3, hx]
      rw [if_pos (by omega), if_pos (by omega), if_pos (by omega), if_pos (by omega), Nat.mod_eq_of_lt h16]
    · have ih' := ih (n / 16) (by omega) (by omega)
      have e1 : wrap64 (Int.tdiv (n : Int) 16) = ((n / 16 : Nat) : Int) := by
        rw [Int.tdiv_eq_ediv_of_nonneg (by omega), wrap_id (by omega) (by omega)]; rfl
      have hl1 : (hexB (n / 16)).length ≤ 7 := hexB_len 6 _ (by omega)
      have hl2 : (hexB (n % 16)).length ≤ 1 := hexB_len 0 _ (by omega)
      refine Ev.step (f := fun k => (spec_HexText.f k ((n / 16 : Nat) : Int)).bind fun t => if t.size + (mkB (hexB (n % 16))).size ≤ 9223372036854775807 then some (t ++ mkB (hexB (n % 16))) else none) (fun k => ?_) ?_
      · simp only [spec_HexText.j0, Bool.false_eq_true, if_false, e2, e3, hx, e1]
        rw [if_pos (by omega), if_pos (by omega), if_pos (by omega), if_neg (by omega)]
      · refine ih'.bind ?_
        rw [if_pos (by rw [size_mk, size_mk]; omega), mk_app, hexB_big h16]
        exact Ev.now _
theorem implHex_is (n : Nat) (h : n ≤ 268435455) : impl_HexText.f (n : Int) = some (mkB (hexB n)) := by
  have h1 : impl_within.f (n : Int) 0 268435455 = some true := by
    unfold impl_within.f; rw [if_pos (Int.natCast_nonneg n), decide_eq_true (show (n : Int) ≤ 268435455 by omega)]
  have h2 : strconv_FormatInt.f (n : Int) 16 = some (mkB (hexB n)) := by
    unfold strconv_FormatInt.f; rw [if_pos ⟨rfl, Int.natCast_nonneg n, by omega⟩, Int.toNat_natCast, hexB_mk]
  unfold impl_HexText.f; rw [h1, Option.bind_some, if_pos rfl, h2, Option.bind_some]

/-! #### Within -/
theorem within_is (n a b : Int) : impl_within.f n a b = some (decide (a ≤ n) && decide (n ≤ b)) := by
  unfold impl_within.f
  by_cases h : a ≤ n <;> simp [h]

def crB : List UInt8 := [13, 10]
/-- The chunks of a text. -/
def chunksT (size : Nat) (b : List UInt8) : List UInt8 := if h : b = [] ∨ size = 0 then [48, 13, 10, 13, 10] else hexB (min size b.length) ++ crB ++ b.take size ++ crB ++ chunksT size (b.drop size)
termination_by b.length
decreasing_by
  have : 0 < b.length := List.length_pos_iff.2 (fun e => h (.inl e))
  have : size ≠ 0 := fun e => h (.inr e)
  simp; omega
theorem chunksT_nil (size : Nat) : chunksT size [] = [48, 13, 10, 13, 10] := by rw [chunksT, dif_pos (.inl rfl)]
theorem chunksT_cons (size : Nat) (b : List UInt8) (h0 : b ≠ []) (h1 : 1 ≤ size) : chunksT size b = hexB (min size b.length) ++ crB ++ b.take size ++ crB ++ chunksT size (b.drop size) := by
  rw [chunksT, dif_neg (by rintro (e | e); exact h0 e; omega)]
theorem chunk_chain {F : Nat → Option ByteArray} {g : Nat → ByteArray → Option ByteArray} {r : ByteArray} (s t y : List UInt8) (hF : Ev F (mkB t)) (hl : s.length + t.length + y.length + 4 ≤ 9223372036854775807) (h : Ev (fun k => g k (mkB (s ++ t ++ crB ++ y ++ crB))) r) :
    Ev (fun k => (F k).bind fun t => if (mkB s).size + t.size ≤ 9223372036854775807 then (if (mkB s ++ t).size + 2 ≤ 9223372036854775807 then (if ((mkB s ++ t) ++ (⟨#[13, 10]⟩ : ByteArray)).size + (mkB y).size ≤ 9223372036854775807 then (if (((mkB s ++ t) ++ (⟨#[13, 10]⟩ : ByteArray)) ++ mkB y).size + 2 ≤ 9223372036854775807 then g k ((((mkB s ++ t) ++ (⟨#[13, 10]⟩ : ByteArray)) ++ mkB y) ++ (⟨#[13, 10]⟩ : ByteArray)) else none) else none) else none) else none) r := by
  have cr : (⟨#[13, 10]⟩ : ByteArray) = mkB crB := rfl
  have hcr : crB.length = 2 := rfl
  simp only [cr]
  refine hF.bind ?_
  simp only [mk_app, size_mk, List.length_append, hcr]
  simp only [if_pos (show s.length + t.length ≤ 9223372036854775807 by omega), if_pos (show s.length + t.length + 2 ≤ 9223372036854775807 by omega), if_pos (show s.length + t.length + 2 + y.length ≤ 9223372036854775807 by omega), if_pos (show s.length + t.length + 2 + y.length + 2 ≤ 9223372036854775807 by omega)]
  exact h
theorem specCh_big (k : Nat) (x0 : ByteArray) (x1 : Int) (x5 : ByteArray) (x6 a b : Int) (y : ByteArray) (h0 : x6 < (x0.size : Int)) (e1 : wrap64 ((x0.size : Int) - x6) = a) (e2 : wrap64 (x6 + x1) = b) (h1 : a > x1) (h2 : 0 ≤ x6) (h3 : x6 ≤ b) (h4 : b ≤ (x0.size : Int)) (hy : x0.extract x6.toNat b.toNat = y) :
    spec_ChunkText.l0 (k + 1) x0 x1 x5 x6 = (spec_HexText.f k x1).bind fun t => if x5.size + t.size ≤ 9223372036854775807 then (if (x5 ++ t).size + 2 ≤ 9223372036854775807 then (if ((x5 ++ t) ++ (⟨#[13, 10]⟩ : ByteArray)).size + y.size ≤ 9223372036854775807 then (if (((x5 ++ t) ++ (⟨#[13, 10]⟩ : ByteArray)) ++ y).size + 2 ≤ 9223372036854775807 then spec_ChunkText.l0 k x0 x1 ((((x5 ++ t) ++ (⟨#[13, 10]⟩ : ByteArray)) ++ y) ++ (⟨#[13, 10]⟩ : ByteArray)) b else none) else none) else none) else none := by
  rw [spec_ChunkText.l0, if_pos h0, e1, if_pos h1, e2, hy]
  refine congrArg (Option.bind _) (funext fun t => ?_)
  rw [if_pos h2, if_pos h3, if_pos h4]
theorem specCh_small (k : Nat) (x0 : ByteArray) (x1 : Int) (x5 : ByteArray) (x6 a b c : Int) (y : ByteArray) (h0 : x6 < (x0.size : Int)) (e1 : wrap64 ((x0.size : Int) - x6) = a) (e3 : wrap64 (x6 + a) = c) (e2 : wrap64 (x6 + x1) = b) (h1 : ¬ a > x1) (h2 : 0 ≤ x6) (h3 : x6 ≤ c) (h4 : c ≤ (x0.size : Int)) (hy : x0.extract x6.toNat c.toNat = y) :
    spec_ChunkText.l0 (k + 1) x0 x1 x5 x6 = (spec_HexText.f k a).bind fun t => if x5.size + t.size ≤ 9223372036854775807 then (if (x5 ++ t).size + 2 ≤ 9223372036854775807 then (if ((x5 ++ t) ++ (⟨#[13, 10]⟩ : ByteArray)).size + y.size ≤ 9223372036854775807 then (if (((x5 ++ t) ++ (⟨#[13, 10]⟩ : ByteArray)) ++ y).size + 2 ≤ 9223372036854775807 then spec_ChunkText.l0 k x0 x1 ((((x5 ++ t) ++ (⟨#[13, 10]⟩ : ByteArray)) ++ y) ++ (⟨#[13, 10]⟩ : ByteArray)) b else none) else none) else none) else none := by
  rw [spec_ChunkText.l0, if_pos h0, e1, if_neg h1, e3, e2, hy]
  refine congrArg (Option.bind _) (funext fun t => ?_)
  rw [if_pos h2, if_pos h3, if_pos h4]
theorem specChunks_go (B : List UInt8) (size : Nat) (hB : B.length ≤ 600) (h1 : 1 ≤ size) (h2 : size ≤ 600) : ∀ (m at_ : Nat) (s : List UInt8), B.length - at_ = m → at_ ≤ 1200 → s.length + 620 * m ≤ 1000000 →
    Ev (fun k => spec_ChunkText.l0 k (mkB B) size (mkB s) at_) (mkB (s ++ chunksT size (B.drop at_))) := by
  intro m
  induction m using Nat.strongRecOn with
  | _ m ih =>
    intro at_ s hm hat hs
    by_cases hlt : at_ < B.length
    · have hne : B.drop at_ ≠ [] := by
        intro e; have := congrArg List.length e; simp at this; omega
      have hw : wrap64 (((mkB B).size : Int) - (at_ : Int)) = ((B.length - at_ : Nat) : Int) := by rw [size_mk, wrap_id (by omega) (by omega)]; omega
      have hw2 : wrap64 ((at_ : Int) + (size : Int)) = ((at_ + size : Nat) : Int) := by rw [wrap_id (by omega) (by omega)]; omega
      have hn : min size (B.drop at_).length ≤ 600 := by omega
      have hhl : (hexB (min size (B.drop at_).length)).length ≤ 7 := hexB_len 6 _ (by omega)
      have ih' := ih (B.length - (at_ + size)) (by omega) (at_ + size) (s ++ hexB (min size (B.drop at_).length) ++ crB ++ (B.drop at_).take size ++ crB) rfl (by omega) (by
        have : ((B.drop at_).take size).length ≤ 600 := by rw [List.length_take]; omega
        simp only [List.length_append, crB, List.length_cons, List.length_nil]; omega)
      have e : s ++ chunksT size (B.drop at_) = s ++ hexB (min size (B.drop at_).length) ++ crB ++ (B.drop at_).take size ++ crB ++ chunksT size (B.drop (at_ + size)) := by
        rw [chunksT_cons size _ hne h1, List.drop_drop]; simp
      rw [e]
      have cr : (⟨#[13, 10]⟩ : ByteArray) = mkB crB := rfl
      have hcr : crB.length = 2 := rfl
      by_cases hgt : B.length - at_ > size
      · have hmin : min size (B.drop at_).length = size := by rw [List.length_drop]; omega
        have hex : (mkB B).extract (at_ : Int).toNat ((at_ + size : Nat) : Int).toNat = mkB ((B.drop at_).take size) := by
          rw [extract_mk, Int.toNat_natCast, Int.toNat_natCast, show at_ + size - at_ = size by omega]
        rw [hmin] at ih' hhl ⊢
        have htl : ((B.drop at_).take size).length ≤ 600 := by rw [List.length_take]; omega
        refine Ev.step (fun k => ?_) (chunk_chain (g := fun k s' => spec_ChunkText.l0 k (mkB B) size s' ((at_ + size : Nat) : Int)) s (hexB size) ((B.drop at_).take size) (specHex_is size (by omega)) (by omega) ih')
        exact specCh_big k (mkB B) size (mkB s) at_ _ _ _ (by rw [size_mk]; omega) hw hw2 (by omega) (by omega) (by omega) (by rw [size_mk]; omega) hex
      · have hmin : min size (B.drop at_).length = B.length - at_ := by rw [List.length_drop]; omega
        have hsz := size_mk B
        have g0 : (at_ : Int) < ((mkB B).size : Int) := by clear hw hw2; omega
        have g1 : ¬ ((B.length - at_ : Nat) : Int) > (size : Int) := by clear hw hw2; omega
        have g3 : (at_ : Int) ≤ ((B.length : Nat) : Int) := by clear hw hw2; omega
        have g4 : ((B.length : Nat) : Int) ≤ ((mkB B).size : Int) := by clear hw hw2; omega
        have hw3 : wrap64 ((at_ : Int) + ((B.length - at_ : Nat) : Int)) = ((B.length : Nat) : Int) := by clear hw hw2; rw [wrap_id (by omega) (by omega)]; omega
        have hex : (mkB B).extract (at_ : Int).toNat ((B.length : Nat) : Int).toNat = mkB ((B.drop at_).take size) := by
          rw [extract_mk, Int.toNat_natCast, Int.toNat_natCast, List.take_of_length_le (by rw [List.length_drop]; omega), List.take_of_length_le (by rw [List.length_drop]; omega)]
        rw [hmin] at ih' hhl ⊢
        have htl : ((B.drop at_).take size).length ≤ 600 := by rw [List.length_take]; omega
        refine Ev.step (fun k => ?_) (chunk_chain (g := fun k s' => spec_ChunkText.l0 k (mkB B) size s' ((at_ + size : Nat) : Int)) s (hexB (B.length - at_)) ((B.drop at_).take size) (specHex_is (B.length - at_) (by clear hw hw2 hw3; omega)) (by clear hw hw2 hw3; omega) ih')
        exact specCh_small k (mkB B) (size : Int) (mkB s) (at_ : Int) ((B.length - at_ : Nat) : Int) ((at_ + size : Nat) : Int) ((B.length : Nat) : Int) (mkB ((B.drop at_).take size)) g0 hw hw3 hw2 g1 (Int.natCast_nonneg at_) g3 g4 hex
    · have hz : B.drop at_ = [] := List.drop_eq_nil_of_le (by omega)
      rw [hz, chunksT_nil]
      refine Ev.step (f := fun _ => some (mkB (s ++ [48, 13, 10, 13, 10]))) (fun k => ?_) (Ev.now _)
      rw [spec_ChunkText.l0, if_neg (by rw [size_mk]; omega), if_pos (by rw [size_mk]; omega)]
      rw [show (⟨#[48, 13, 10, 13, 10]⟩ : ByteArray) = mkB [48, 13, 10, 13, 10] from rfl, mk_app]
theorem implChunks_go (size : Nat) (h1 : 1 ≤ size) (h2 : size ≤ 600) : ∀ (m : Nat) (b s : List UInt8), b.length = m → m ≤ 600 → s.length + 620 * m ≤ 1000000 →
    Ev (fun k => impl_ChunkText.l0 k (mkB b) size (mkB s)) (mkB (s ++ chunksT size b)) := by
  intro m
  induction m using Nat.strongRecOn with
  | _ m ih =>
    intro b s hm hb hs
    have cr : (⟨#[13, 10]⟩ : ByteArray) = mkB crB := rfl
    have hcr : crB.length = 2 := rfl
    by_cases h0 : b = []
    · subst h0
      rw [chunksT_nil]
      refine Ev.step (f := fun _ => some (mkB (s ++ [48, 13, 10, 13, 10]))) (fun k => ?_) (Ev.now _)
      simp only [impl_ChunkText.l0]
      rw [toList_mk, if_pos rfl, cr, show (⟨#[48]⟩ : ByteArray) = mkB [48] from rfl]
      simp only [mk_app, size_mk]
      rw [if_pos (by omega), if_pos (by simp; omega), if_pos (by simp [crB]; omega)]
      congr 2
      simp [crB]
    · have hlen : 1 ≤ b.length := List.length_pos_iff.2 h0
      have hmn : mn (size : Int) ((mkB b).size : Int) = ((min size b.length : Nat) : Int) := by
        rw [size_mk]; unfold mn; split <;> omega
      have hhl : (hexB (min size b.length)).length ≤ 7 := hexB_len 6 _ (by omega)
      have htk : b.take (min size b.length) = b.take size := by
        rcases Nat.le_total size b.length with h | h
        · rw [Nat.min_eq_left h]
        · rw [Nat.min_eq_right h, List.take_of_length_le (Nat.le_refl _), List.take_of_length_le h]
      have hdr : b.drop (min size b.length) = b.drop size := by
        rcases Nat.le_total size b.length with h | h
        · rw [Nat.min_eq_left h]
        · rw [Nat.min_eq_right h, List.drop_eq_nil_of_le (Nat.le_refl _), List.drop_eq_nil_of_le h]
      have hx1 : (mkB b).extract 0 ((min size b.length : Nat) : Int).toNat = mkB (b.take size) := by
        rw [extract_mk, Int.toNat_natCast, List.drop_zero, Nat.sub_zero, htk]
      have hx2 : (mkB b).extract ((min size b.length : Nat) : Int).toNat b.length = mkB (b.drop size) := by
        rw [extract_mk, Int.toNat_natCast, List.take_of_length_le (by rw [List.length_drop]; omega), hdr]
      have htl : (b.take size).length ≤ 600 := by rw [List.length_take]; omega
      have ih' := ih (b.drop size).length (by rw [List.length_drop]; omega) (b.drop size) (s ++ (hexB (min size b.length) ++ crB ++ b.take size ++ crB)) rfl (by rw [List.length_drop]; omega) (by
        rw [List.length_drop]; simp only [List.length_append, hcr]; omega)
      have e : s ++ chunksT size b = s ++ (hexB (min size b.length) ++ crB ++ b.take size ++ crB) ++ chunksT size (b.drop size) := by
        rw [chunksT_cons size _ h0 h1]; simp
      rw [e]
      refine Ev.step (fun k => ?_) ih'
      simp only [impl_ChunkText.l0]
      rw [toList_mk, if_neg h0, hmn, implHex_is _ (by omega)]
      simp only [Option.bind_some, hx1, hx2, cr, mk_app, size_mk]
      rw [if_pos (by omega), if_pos (by omega), if_pos (by omega), if_pos (by simp only [List.length_append]; omega), if_pos (by simp only [List.length_append]; omega), if_pos (by simp only [List.length_append]; omega)]
theorem FnExactChunkText : laws_FnExactChunkText.Pure := by
  intro b n hb hn
  refine Ev.rounds ?_
  unfold laws_FnExactChunkText.f
  by_cases hbig : (b.size : Int) > 1048576
  · simp only [if_pos hbig]; exact Ev.now _
  simp only [if_neg hbig]
  have hj1 : Ev (fun k => spec_ChunkText.j0 k b n true) (⟨#[]⟩ : ByteArray) := Ev.step (f := fun _ => some (⟨#[]⟩ : ByteArray)) (fun k => by simp only [spec_ChunkText.j0, if_true]) (Ev.now _)
  have hj2 : Ev (fun k => impl_ChunkText.j0 k b n true) (⟨#[]⟩ : ByteArray) := Ev.step (f := fun _ => some (⟨#[]⟩ : ByteArray)) (fun k => by simp only [impl_ChunkText.j0, if_true]) (Ev.now _)
  by_cases hok : b.size ≤ 600 ∧ 1 ≤ n ∧ n ≤ 600
  · obtain ⟨c0, c1, c2⟩ := hok
    obtain ⟨m, rfl⟩ : ∃ m : Nat, n = m := ⟨n.toNat, by omega⟩
    have hbl : (bl b).length ≤ 600 := by rw [size_bl]; exact c0
    have hs := specChunks_go (bl b) m hbl (by omega) (by omega) _ 0 [] rfl (by omega) (by simp; omega)
    have hi := implChunks_go m (by omega) (by omega) _ (bl b) [] rfl hbl (by simp; omega)
    have ez : mkB [] = (⟨#[]⟩ : ByteArray) := rfl
    rw [mk_bl, ez] at hs hi
    simp only [List.nil_append, List.drop_zero] at hs hi
    refine Ev.bind (a := mkB (chunksT m (bl b))) ?_ ?_
    · unfold spec_ChunkText.f
      have d1 : decide ((m : Int) > 600) = false := decide_eq_false (by omega)
      simp only [if_neg (show ¬ (b.size : Int) > 600 by omega), if_neg (show ¬ (m : Int) < 1 by omega), d1]
      exact Ev.step (f := fun k => spec_ChunkText.l0 k b m (⟨#[]⟩ : ByteArray) 0) (fun k => by simp only [spec_ChunkText.j0, Bool.false_eq_true, if_false]) hs
    refine Ev.bind (a := mkB (chunksT m (bl b))) ?_ ?_
    · unfold impl_ChunkText.f
      simp only [if_neg (show ¬ (b.size : Int) > 600 by omega), within_is, decide_eq_true (show (1 : Int) ≤ m by omega), decide_eq_true (show (m : Int) ≤ 600 by omega), Bool.and_self, Option.bind_some, Bool.not_true]
      exact Ev.step (f := fun k => impl_ChunkText.l0 k b m (⟨#[]⟩ : ByteArray)) (fun k => by simp only [impl_ChunkText.j0, Bool.false_eq_true, if_false]) hi
    simp only [if_true]; exact Ev.now _
  · refine Ev.bind (a := (⟨#[]⟩ : ByteArray)) ?_ ?_
    · unfold spec_ChunkText.f
      by_cases c0 : (b.size : Int) > 600
      · simp only [if_pos c0]; exact hj1
      by_cases c1 : n < 1
      · simp only [if_neg c0, if_pos c1]; exact hj1
      · simp only [if_neg c0, if_neg c1, decide_eq_true (show n > 600 by omega)]; exact hj1
    refine Ev.bind (a := (⟨#[]⟩ : ByteArray)) ?_ ?_
    · unfold impl_ChunkText.f
      by_cases c0 : (b.size : Int) > 600
      · simp only [if_pos c0]; exact hj2
      · have e : (decide (1 ≤ n) && decide (n ≤ 600)) = false := by
          by_cases c1 : 1 ≤ n
          · rw [decide_eq_false (show ¬ n ≤ 600 by omega), Bool.and_false]
          · rw [decide_eq_false c1, Bool.false_and]
        simp only [if_neg c0, within_is, e, Option.bind_some, Bool.not_false]; exact hj2
    simp only [if_true]; exact Ev.now _

end Go.Proofs.YtnfjjbpochmhpaaDoor.Pure
