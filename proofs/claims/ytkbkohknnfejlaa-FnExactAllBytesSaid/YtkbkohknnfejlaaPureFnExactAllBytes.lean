/- AllBytes of the program and of the reference agree, the argument stays as it was, and the call returns true, for every store. No condition. -/
import Derived.Test.YtkbkohknnfejlaaGFnExactAllBytesx4
import Derived.Laws.Strings
import Derived.OpenShut
namespace Go.Proofs.Ytkbkohknnfejlaa.Pure
open Go.RowKit Go.Proofs.Ytkbkohknnfejlaa.GFnExactAllBytes Go.Proofs.YtkbkohknnfejlaaW.PrintWords Go.Proofs.YtkbkohknnfejlaaW.PrintLast Go.Proofs.YtkbkohknnfejlaaW.PrintMore
set_option linter.unusedVariables false
set_option linter.unusedSimpArgs false

/-! #### Bytes -/
/-- More rounds: an Ev of a function of its own. -/
theorem Ev.mono1 {α : Type} {g : Nat → Option α} {r : α} (K : Nat) (h : ∀ k, g (k + K) = some r) : Ev g r :=
  ⟨K, fun k hk => by obtain ⟨m, rfl⟩ : ∃ m, k = m + K := ⟨k - K, by omega⟩; exact h m⟩
theorem toList_inj {a b : ByteArray} (h : a.toList = b.toList) : a = b := by
  rw [ByteArray.toList_eq, ByteArray.toList_eq] at h
  cases a; cases b; simp_all
theorem getD_mid {α : Type} (pre : List α) (x : α) (r : List α) (z : α) : (pre ++ x :: r).getD ((pre.length : Int).toNat) z = x := by simp [List.getD]
theorem wrap_succ {n : Nat} (h : n < 9223372036854775807) : wrap64 ((n : Int) + 1) = ((n + 1 : Nat) : Int) := by unfold wrap64; omega
theorem wrap_id {a : Int} (h1 : -9223372036854775808 ≤ a) (h2 : a ≤ 9223372036854775807) : wrap64 a = a := by unfold wrap64; omega
theorem len_mid {α : Type} (pre : List α) (x : α) (r : List α) : (pre.length : Int) < ((pre ++ x :: r).length : Int) := by simp; omega
theorem app_mid {α : Type} (pre : List α) (x : α) (r : List α) : pre ++ x :: r = (pre ++ [x]) ++ r := by simp
theorem len_snoc {α : Type} (pre : List α) (x : α) : ((pre ++ [x]).length : Int) = (pre.length : Int) + 1 := by simp
theorem toList_length (s : ByteArray) : s.toList.length = s.size := by rw [ByteArray.toList_eq, Array.length_toList]; rfl
theorem size_pos_iff (s : ByteArray) : (s.toList = ([] : List UInt8)) ↔ (s.size : Int) = 0 := by
  rw [← List.length_eq_zero_iff, toList_length]; omega
theorem size_strOf (xs : List Int) : (strOfNums xs).size = xs.length := by
  show (strOfNums xs).data.size = _
  simp [strOfNums]
theorem length_bytesOf (s : ByteArray) : (bytesOf s).length = s.size := bytesOf_length s
theorem less_irrefl : ∀ l : List UInt8, Op.bytesLess l l = false
  | [] => rfl
  | a :: l => by simp [Op.bytesLess, less_irrefl l]
theorem less_total : ∀ l m : List UInt8, l ≠ m → Op.bytesLess l m = !Op.bytesLess m l
  | [], [], h => absurd rfl h
  | [], _ :: _, _ => rfl
  | _ :: _, [], _ => rfl
  | a :: l, b :: m, h => by
    by_cases e : a = b
    · subst e
      have := less_total l m (fun e => h (by rw [e]))
      simp [Op.bytesLess, this]
    · have hne : (a == b) = false := by simpa using e
      have hne' : (b == a) = false := by simpa using fun x => e x.symm
      simp only [Op.bytesLess, hne, hne', Bool.false_and, Bool.or_false]
      rcases Nat.lt_trichotomy a.toNat b.toNat with h1 | h1 | h1
      · have x1 : a < b := UInt8.lt_iff_toNat_lt.2 h1
        have x2 : ¬ b < a := fun x => by have := UInt8.lt_iff_toNat_lt.1 x; omega
        simp [x1, x2]
      · exact absurd (UInt8.toNat_inj.1 h1) e
      · have x1 : b < a := UInt8.lt_iff_toNat_lt.2 h1
        have x2 : ¬ a < b := fun x => by have := UInt8.lt_iff_toNat_lt.1 x; omega
        simp [x1, x2]

/-! #### Within -/
theorem within_is (n a b : Int) : impl_within.f n a b = some (decide (a ≤ n) && decide (n ≤ b)) := by
  unfold impl_within.f
  by_cases h : a ≤ n <;> simp [h]

/-! #### Store -/
abbrev LSeg := S90
abbrev ISeg := S80
def cSeg (x : LSeg) : ISeg := ⟨x.f0, x.f1⟩
def totL (l : List LSeg) : Nat := (l.map fun x => x.f0.size).sum
def tot (l : List ISeg) : Nat := (l.map fun x => x.f0.size).sum
theorem tot_conv (l : List LSeg) : tot (l.map cSeg) = totL l := by simp [tot, totL, Function.comp_def, cSeg]
theorem szSegS_go : ∀ (r pre : List LSeg) (n : Int), (∀ x ∈ r, x.f0.size ≤ 9223372036854775807) → (pre ++ r).length ≤ 1048576 → 0 ≤ n → n ≤ 1048576 →
    ∃ q, Ev (fun k => laws_szSegS.l0 k (pre ++ r) n pre.length) q ∧ (0 ≤ q → (totL r : Int) ≤ n)
  | [], pre, n, _, _, h0, _ => ⟨n, Ev.step (f := fun _ => some n) (fun k => by simp [laws_szSegS.l0]) (Ev.now _), fun _ => by simpa [totL] using h0⟩
  | x :: r, pre, n, hb, hl, h0, h1 => by
    have hx := hb x (by simp)
    have hs : laws_szSeg.f x.f0 x.f1 n = some (if n < x.f0.size then -1 else n - x.f0.size) := by
      unfold laws_szSeg.f
      rw [wrap_id (by omega) (by omega)]
      split <;> split <;> first | rfl | omega
    by_cases hn : n < x.f0.size
    · rw [if_pos hn] at hs
      refine ⟨-1, Ev.step (f := fun _ => some (-1)) (fun k => ?_) (Ev.now _), fun h => by omega⟩
      simp only [laws_szSegS.l0]
      rw [if_pos (len_mid ..), if_pos (by omega)]
      simp only [rd_T90, getD_mid, hs, Option.bind_some]
      rfl
    · rw [if_neg hn] at hs
      obtain ⟨q, hq, ht⟩ := szSegS_go r (pre ++ [x]) (n - x.f0.size) (fun y hy => hb y (List.mem_cons_of_mem _ hy)) (by rw [← app_mid]; exact hl) (by omega) (by omega)
      rw [← app_mid, len_snoc] at hq
      refine ⟨q, Ev.step (fun k => ?_) hq, fun h => ?_⟩
      · simp only [laws_szSegS.l0]
        rw [if_pos (len_mid ..), if_pos (by omega)]
        simp only [rd_T90, getD_mid, hs, Option.bind_some]
        simp at hl
        rw [if_neg (by omega), wrap_id (by omega) (by omega)]
      · have := ht h
        simp [totL] at this ⊢
        omega
/-- What the law's bound on its argument says. -/
theorem szStore_is (l : List LSeg) (c : Int) (hl : l.length ≤ 9223372036854775807) (hb : ∀ x ∈ l, x.f0.size ≤ 9223372036854775807) :
    ∃ q, Ev (fun k => laws_szStore.f k l c 1048576) q ∧ (0 ≤ q → l.length ≤ 1048576 ∧ totL l ≤ 1048576) := by
  unfold laws_szStore.f laws_szSegS.f
  by_cases h : 1048576 < l.length
  · refine ⟨-1, ?_, fun h => by omega⟩
    rw [wrap_id (by omega) (by omega)]
    simp only [if_pos (show (1048576 : Int) - (l.length : Int) < 0 by omega)]
    exact Ev.now _
  · obtain ⟨q, hq, ht⟩ := szSegS_go l [] (1048576 - l.length) hb (by simpa using (by omega : l.length ≤ 1048576)) (by omega) (by omega)
    rw [wrap_id (by omega) (by omega)]
    simp only [if_neg (show ¬ (1048576 : Int) - (l.length : Int) < 0 by omega)]
    simp only [List.nil_append, List.length_nil] at hq
    by_cases hq0 : q < 0
    · refine ⟨-1, hq.bind ?_, fun h => by omega⟩
      simp only [if_pos hq0]; exact Ev.now _
    · refine ⟨q, hq.bind ?_, fun hh => ⟨by omega, ?_⟩⟩
      · simp only [if_neg hq0]; exact Ev.now _
      · have := ht hh; omega
theorem toSegS_go : ∀ (r pre : List LSeg) (acc : List ISeg), acc.length = pre.length → (pre ++ r).length ≤ 1048576 →
    Ev (fun k => laws_toSegS.l0 k (pre ++ r) (acc ++ List.replicate r.length z80) pre.length) (acc ++ r.map cSeg)
  | [], pre, acc, ha, _ => Ev.step (f := fun _ => some (acc ++ ([] : List LSeg).map cSeg)) (fun k => by simp [laws_toSegS.l0]) (Ev.now _)
  | x :: r, pre, acc, ha, hl => by
    have ih := toSegS_go r (pre ++ [x]) (acc ++ [cSeg x]) (by simp [ha]) (by rw [← app_mid]; exact hl)
    rw [← app_mid, len_snoc] at ih
    have e : acc ++ (x :: r).map cSeg = (acc ++ [cSeg x]) ++ r.map cSeg := by simp
    rw [e]
    refine Ev.step (fun k => ?_) ih
    simp only [laws_toSegS.l0]
    rw [if_pos (len_mid ..), if_pos (by omega)]
    simp only [rd_T90, getD_mid, laws_toSeg.f, Option.bind_some]
    rw [if_pos (by simp [ha]; omega)]
    simp at hl
    rw [wrap_id (by omega) (by omega)]
    have e2 : (acc ++ List.replicate (x :: r).length z80).set ((pre.length : Int).toNat) (⟨x.f0, x.f1⟩ : ISeg) = (acc ++ [cSeg x]) ++ List.replicate r.length z80 := by
      rw [show ((pre.length : Int).toNat) = acc.length by omega, List.length_cons, List.replicate_succ]
      simp [cSeg]
    rw [e2]
theorem toStore_is (l : List LSeg) (c : Int) (hl : l.length ≤ 1048576) : Ev (fun k => laws_toStore.f k l c) (l.map cSeg, c) := by
  unfold laws_toStore.f laws_toSegS.f
  have h := toSegS_go l [] [] rfl (by simpa using hl)
  simp only [if_pos (show 0 ≤ (l.length : Int) by omega), if_pos (show (l.length : Int).toNat ≤ 11728124029610 by omega)]
  simp only [List.nil_append, List.length_nil] at h
  exact Ev.bind (a := l.map cSeg) h (Ev.now _)
/-- A segment by itself, and whether it is the last one. -/
def segOk (x : ISeg) (last : Bool) : Bool := decide (0 ≤ x.f1) && decide (x.f1 ≤ (x.f0.size : Int)) && (last || !decide ((x.f0.size : Int) = 0) && decide (x.f1 = (x.f0.size : Int)))
def segsOk : List ISeg → Bool
  | [] => true
  | x :: r => segOk x r.isEmpty && segsOk r
def storeOk (l : List ISeg) (c : Int) : Bool := decide (0 ≤ c) && decide (c ≤ 60000) && decide (1 ≤ l.length) && decide (l.length ≤ 40) && segsOk l && decide ((tot l : Int) ≤ c)
theorem tot_cons (x : ISeg) (r : List ISeg) : (tot (x :: r) : Int) = x.f0.size + tot r := by simp [tot]
theorem isEmpty_mid (pre : List ISeg) (x : ISeg) (r : List ISeg) : (decide ((pre.length : Int) + 1 < ((pre ++ x :: r).length : Int))) = !r.isEmpty := by
  cases r <;> simp
  omega
theorem specStoreOk_go : ∀ (r pre : List ISeg) (room c : Int), (pre ++ r).length ≤ 1048576 → (tot r : Int) ≤ 1048576 → 0 ≤ room → room ≤ 60000 →
    Ev (fun k => spec_StoreOk.l0 k room pre.length (pre ++ r) c) (segsOk r && decide ((tot r : Int) ≤ room))
  | [], pre, room, c, _, _, h0, _ => Ev.step (f := fun _ => some true) (fun k => by simp [spec_StoreOk.l0]) (by simpa [segsOk, tot, h0] using Ev.now true)
  | x :: r, pre, room, c, hl, ht, h0, h1 => by
    have hcell : ∀ k, spec_StoreOk.l0 (k + 1) room pre.length (pre ++ x :: r) c = if (x.f0.size : Int) > room then some false else if x.f1 < 0 then some false else if x.f1 > (x.f0.size : Int) then some false else if r.isEmpty = false then (if (x.f0.size : Int) = 0 then some false else if x.f1 = (x.f0.size : Int) then spec_StoreOk.l0 k (room - x.f0.size) (pre.length + 1) (pre ++ x :: r) c else some false) else spec_StoreOk.l0 k (room - x.f0.size) (pre.length + 1) (pre ++ x :: r) c := by
      intro k
      simp only [spec_StoreOk.l0]
      rw [if_pos (len_mid ..), if_pos (by omega)]
      simp only [rd_T80, getD_mid]
      have hw : wrap64 ((pre.length : Int) + 1) = (pre.length : Int) + 1 := by simp at hl; exact wrap_id (by omega) (by omega)
      rw [hw]
      have hd := isEmpty_mid pre x r
      by_cases hs : (x.f0.size : Int) > room
      · rw [if_pos hs, if_pos hs]
      · rw [if_neg hs, if_neg hs, wrap_id (a := room - _) (by omega) (by omega)]
        cases hr : r.isEmpty
        · rw [hr] at hd
          rw [if_pos (of_decide_eq_true hd)]; simp
        · rw [hr] at hd
          rw [if_neg (of_decide_eq_false hd)]; simp
    have htc := tot_cons x r
    by_cases hs : (x.f0.size : Int) > room
    · refine Ev.step (f := fun _ => some false) (fun k => by rw [hcell, if_pos hs]) ?_
      have : decide ((tot (x :: r) : Int) ≤ room) = false := decide_eq_false (by omega)
      rw [this, Bool.and_false]; exact Ev.now _
    · by_cases ha : x.f1 < 0
      · refine Ev.step (f := fun _ => some false) (fun k => by rw [hcell, if_neg hs, if_pos ha]) ?_
        have : segsOk (x :: r) = false := by simp [segsOk, segOk, show ¬ 0 ≤ x.f1 by omega]
        rw [this, Bool.false_and]; exact Ev.now _
      · by_cases hb : x.f1 > (x.f0.size : Int)
        · refine Ev.step (f := fun _ => some false) (fun k => by rw [hcell, if_neg hs, if_neg ha, if_pos hb]) ?_
          have : segsOk (x :: r) = false := by simp [segsOk, segOk, show ¬ x.f1 ≤ (x.f0.size : Int) by omega]
          rw [this, Bool.false_and]; exact Ev.now _
        · have ih := specStoreOk_go r (pre ++ [x]) (room - x.f0.size) c (by rw [← app_mid]; exact hl) (by omega) (by omega) (by omega)
          rw [← app_mid, len_snoc] at ih
          have hdec : decide ((tot r : Int) ≤ room - x.f0.size) = decide ((tot (x :: r) : Int) ≤ room) := decide_eq_decide.2 (by omega)
          rw [hdec] at ih
          have hgood : 0 ≤ x.f1 ∧ x.f1 ≤ (x.f0.size : Int) := ⟨by omega, by omega⟩
          cases hr : r.isEmpty
          · by_cases hz : (x.f0.size : Int) = 0
            · refine Ev.step (f := fun _ => some false) (fun k => by rw [hcell, if_neg hs, if_neg ha, if_neg hb, if_pos hr, if_pos hz]) ?_
              have : segsOk (x :: r) = false := by simp [segsOk, segOk, hr, hz]
              rw [this, Bool.false_and]; exact Ev.now _
            · by_cases he : x.f1 = (x.f0.size : Int)
              · refine Ev.step (f := fun k => spec_StoreOk.l0 k (room - x.f0.size) (pre.length + 1) (pre ++ x :: r) c) (fun k => by rw [hcell, if_neg hs, if_neg ha, if_neg hb, if_pos hr, if_neg hz, if_pos he]) ?_
                have hz' : decide ((x.f0.size : Int) = 0) = false := decide_eq_false hz
                have : segsOk (x :: r) = segsOk r := by simp only [segsOk, segOk, hr, hz', Bool.false_or, Bool.not_false, Bool.true_and]; simp [he]
                rw [this]; exact ih
              · refine Ev.step (f := fun _ => some false) (fun k => by rw [hcell, if_neg hs, if_neg ha, if_neg hb, if_pos hr, if_neg hz, if_neg he]) ?_
                have : segsOk (x :: r) = false := by simp [segsOk, segOk, hr, he]
                rw [this, Bool.false_and]; exact Ev.now _
          · refine Ev.step (f := fun k => spec_StoreOk.l0 k (room - x.f0.size) (pre.length + 1) (pre ++ x :: r) c) (fun k => by rw [hcell, if_neg hs, if_neg ha, if_neg hb, if_neg (by simp [hr])]) ?_
            have : segsOk (x :: r) = segsOk r := by simp [segsOk, segOk, hr, hgood.1, hgood.2]
            rw [this]; exact ih
theorem specStoreOk_is (l : List ISeg) (c : Int) (hl : l.length ≤ 1048576) (ht : tot l ≤ 1048576) : Ev (fun k => spec_StoreOk.f k l c) (storeOk l c) := by
  have hj : Ev (fun k => spec_StoreOk.j0 k true l c) false := Ev.step (f := fun _ => some false) (fun k => by simp [spec_StoreOk.j0]) (Ev.now _)
  unfold spec_StoreOk.f storeOk
  by_cases h1 : c < 0
  · simpa [h1, show ¬ 0 ≤ c by omega] using hj
  by_cases h2 : c > 60000
  · simpa [h1, h2, show ¬ c ≤ 60000 by omega] using hj
  by_cases h3 : (l.length : Int) < 1
  · simpa [h1, h2, h3, show ¬ 1 ≤ l.length by omega] using hj
  by_cases h4 : (l.length : Int) > 40
  · have e : decide ((l.length : Int) > 40) = true := decide_eq_true h4
    simp only [h1, h2, h3, if_false, e]
    simpa [show ¬ l.length ≤ 40 by omega] using hj
  · have e : decide ((l.length : Int) > 40) = false := decide_eq_false h4
    simp only [h1, h2, h3, if_false, e]
    have := specStoreOk_go l [] c c (by simpa using hl) (by omega) (by omega) (by omega)
    simp only [List.nil_append, List.length_nil] at this
    refine Ev.step (f := fun k => spec_StoreOk.l0 k c 0 l c) (fun k => by simp [spec_StoreOk.j0]) ?_
    have e5 : (decide (0 ≤ c) && decide (c ≤ 60000) && decide (1 ≤ l.length) && decide (l.length ≤ 40) && segsOk l && decide ((tot l : Int) ≤ c)) = (segsOk l && decide ((tot l : Int) ≤ c)) := by
      simp [show 0 ≤ c by omega, show c ≤ 60000 by omega, show 1 ≤ l.length by omega, show l.length ≤ 40 by omega]
    rw [e5]; exact this
theorem used_go : ∀ (r pre : List ISeg) (n : Int), (pre ++ r).length ≤ 1048576 → 0 ≤ n → n + tot r ≤ 1048576 →
    Ev (fun k => impl_Store_used.l0 k n (pre ++ r) ((pre ++ r).length : Int) pre.length) (n + tot r)
  | [], pre, n, _, _, _ => Ev.step (f := fun _ => some n) (fun k => by simp [impl_Store_used.l0]) (by simpa [tot] using Ev.now n)
  | x :: r, pre, n, hl, h0, ht => by
    have htc := tot_cons x r
    have ih := used_go r (pre ++ [x]) (n + x.f0.size) (by rw [← app_mid]; exact hl) (by omega) (by omega)
    rw [← app_mid, len_snoc] at ih
    rw [show n + ((tot (x :: r) : Nat) : Int) = n + x.f0.size + tot r by omega]
    refine Ev.step (fun k => ?_) ih
    simp only [impl_Store_used.l0]
    simp at hl
    rw [if_pos (len_mid ..), if_pos (by omega), if_pos (len_mid ..)]
    simp only [rd_T80, getD_mid]
    rw [wrap_id (by omega) (by omega), wrap_id (by omega) (by omega)]
theorem used_is (l : List ISeg) (c : Int) (hl : l.length ≤ 1048576) (ht : tot l ≤ 1048576) : Ev (fun k => impl_Store_used.f k l c) (tot l : Int) := by
  have := used_go l [] 0 (by simpa using hl) (by omega) (by omega)
  simpa [impl_Store_used.f] using this
theorem implStoreOk_go (L : List ISeg) (hL : L.length ≤ 1048576) (hT : tot L ≤ 1048576) (c : Int) : ∀ (r pre : List ISeg), pre ++ r = L →
    Ev (fun k => impl_StoreOk.l0 k L (L.length : Int) pre.length L c) (segsOk r && decide ((tot L : Int) ≤ c))
  | [], pre, hp => by
    have h := (used_is L c hL hT).bind (f := fun _ (t : Int) => some (decide (t ≤ c))) (Ev.now _)
    have e : pre = L := by simpa using hp
    refine Ev.step (fun k => ?_) (by simpa [segsOk] using h)
    simp only [impl_StoreOk.l0, e]
    rw [if_neg (by omega)]
  | x :: r, pre, hp => by
    have ih := implStoreOk_go L hL hT c r (pre ++ [x]) (by rw [← hp]; simp)
    rw [len_snoc] at ih
    have hd := isEmpty_mid pre x r
    rw [hp] at hd
    have hlm := len_mid pre x r
    rw [hp] at hlm
    have hrd : L.getD ((pre.length : Int).toNat) z80 = x := by rw [← hp, getD_mid]
    have hcell : ∀ k, impl_StoreOk.l0 (k + 1) L (L.length : Int) pre.length L c = if segOk x r.isEmpty = true then impl_StoreOk.l0 k L (L.length : Int) (pre.length + 1) L c else some false := by
      intro k
      simp only [impl_StoreOk.l0]
      rw [if_pos hlm, if_pos (by omega), if_pos hlm]
      simp only [rd_T80, hrd, within_is, Option.bind_some]
      rw [wrap_id (a := (pre.length : Int) + 1) (by omega) (by omega), wrap_id (a := (L.length : Int) - 1) (by omega) (by omega)]
      by_cases h1 : (decide (0 ≤ x.f1) && decide (x.f1 ≤ (x.f0.size : Int))) = true
      · rw [if_pos h1]
        cases hr : r.isEmpty
        · rw [hr] at hd
          have := of_decide_eq_true hd
          rw [if_pos (by omega)]
          by_cases hz : (x.f0.size : Int) = 0
          · rw [if_pos ((size_pos_iff _).2 hz)]; simp [segOk, hz]
          · rw [if_neg (fun h => hz ((size_pos_iff _).1 h))]
            by_cases he : x.f1 = (x.f0.size : Int)
            · have hz' : decide ((x.f0.size : Int) = 0) = false := decide_eq_false hz
              rw [if_pos he, if_pos (by simp only [segOk, h1, hz', Bool.false_or, Bool.not_false, Bool.true_and]; simp [he])]
            · rw [if_neg he, if_neg (by simp [segOk, he])]
        · rw [hr] at hd
          have := of_decide_eq_false hd
          rw [if_neg (by omega), if_pos (by simp only [segOk, h1]; simp)]
      · rw [if_neg h1, if_neg (by simp only [segOk]; simp at h1 ⊢; omega)]
    cases hs : segOk x r.isEmpty
    · refine Ev.step (f := fun _ => some false) (fun k => by rw [hcell, hs]; rfl) ?_
      simpa [segsOk, hs] using Ev.now false
    · refine Ev.step (f := fun k => impl_StoreOk.l0 k L (L.length : Int) (pre.length + 1) L c) (fun k => by rw [hcell, hs]; rfl) ?_
      simpa [segsOk, hs] using ih
theorem implStoreOk_is (l : List ISeg) (c : Int) (hl : l.length ≤ 1048576) (ht : tot l ≤ 1048576) : Ev (fun k => impl_StoreOk.f k l c) (storeOk l c) := by
  have hj : Ev (fun k => impl_StoreOk.j0 k true l c) false := Ev.step (f := fun _ => some false) (fun k => by simp [impl_StoreOk.j0]) (Ev.now _)
  unfold impl_StoreOk.f storeOk
  simp only [within_is, Option.bind_some]
  by_cases h1 : (decide (0 ≤ c) && decide (c ≤ 60000)) = true
  · rw [h1]
    simp only [if_true, Bool.true_and]
    have e2 : (decide ((1 : Int) ≤ (l.length : Int)) && decide ((l.length : Int) ≤ 40)) = (decide (1 ≤ l.length) && decide (l.length ≤ 40)) := by
      rw [Bool.eq_iff_iff]; simp; omega
    rw [e2]
    cases h2 : (decide (1 ≤ l.length) && decide (l.length ≤ 40))
    · simpa using hj
    · have := implStoreOk_go l hl ht c l [] rfl
      simp only [List.length_nil] at this
      refine Ev.step (f := fun k => impl_StoreOk.l0 k l (l.length : Int) 0 l c) (fun k => by simp [impl_StoreOk.j0]) ?_
      simpa using this
  · have h1' : (decide (0 ≤ c) && decide (c ≤ 60000)) = false := by simpa using h1
    rw [h1']
    simpa using hj
theorem eqSegS_go (L : List ISeg) (hL : L.length ≤ 1048576) : ∀ (r pre : List ISeg), pre ++ r = L → Ev (fun k => laws_eqSegS.l0 k L L pre.length) true
  | [], pre, hp => by
    have e : pre = L := by simpa using hp
    exact Ev.step (f := fun _ => some true) (fun k => by simp [laws_eqSegS.l0, e]) (Ev.now _)
  | x :: r, pre, hp => by
    have ih := eqSegS_go L hL r (pre ++ [x]) (by rw [← hp]; simp)
    rw [len_snoc] at ih
    have hlm := len_mid pre x r
    rw [hp] at hlm
    refine Ev.step (fun k => ?_) ih
    simp only [laws_eqSegS.l0]
    rw [if_pos hlm, if_pos (by omega), if_pos hlm, wrap_id (by omega) (by omega)]
    simp [laws_eqSeg.f]
theorem eqStore_is (l : List ISeg) (c : Int) (hl : l.length ≤ 1048576) : Ev (fun k => laws_eqStore.f k l c l c) true := by
  have h := eqSegS_go l hl l [] rfl
  unfold laws_eqStore.f laws_eqSegS.f
  simp only [if_true]
  simp only [List.length_nil] at h
  refine Ev.bind (a := true) h ?_
  simpa using Ev.now true

/-! #### AllBytes -/
def cat (l : List ISeg) : List Int := l.flatMap fun x => bytesOf x.f0
theorem cat_length (l : List ISeg) : (cat l).length = tot l := by
  induction l with
  | nil => rfl
  | cons x r ih => simp [cat, tot, length_bytesOf] at ih ⊢; try omega
theorem specAllBytes_go : ∀ (r pre : List ISeg) (acc : List Int) (c : Int), (pre ++ r).length ≤ 1048576 → acc.length + tot r ≤ 1048576 →
    Ev (fun k => spec_AllBytes.l0 k acc pre.length (pre ++ r) c) (strOfNums (acc ++ cat r))
  | [], pre, acc, c, _, _ => Ev.step (f := fun _ => some (strOfNums acc)) (fun k => by simp [spec_AllBytes.l0]) (by simpa [cat] using Ev.now (strOfNums acc))
  | x :: r, pre, acc, c, hl, ht => by
    have htc := tot_cons x r
    have ih := specAllBytes_go r (pre ++ [x]) (acc ++ bytesOf x.f0) c (by rw [← app_mid]; exact hl) (by rw [List.length_append, length_bytesOf]; omega)
    rw [← app_mid, len_snoc] at ih
    have e : acc ++ cat (x :: r) = acc ++ bytesOf x.f0 ++ cat r := by simp [cat]
    rw [e]
    refine Ev.step (fun k => ?_) ih
    simp only [spec_AllBytes.l0]
    simp at hl
    rw [if_pos (len_mid ..), if_pos (by omega)]
    simp only [rd_T80, getD_mid]
    rw [if_pos (by omega), wrap_id (by omega) (by omega)]
theorem specAllBytes_is (l : List ISeg) (c : Int) (hl : l.length ≤ 1048576) (ht : tot l ≤ 1048576) :
    Ev (fun k => spec_AllBytes.f k l c) (if storeOk l c = true then strOfNums (cat l) else (⟨#[]⟩ : ByteArray)) := by
  unfold spec_AllBytes.f
  refine (specStoreOk_is l c hl ht).bind ?_
  cases h : storeOk l c
  · simpa using Ev.now (⟨#[]⟩ : ByteArray)
  · have := specAllBytes_go l [] [] c (by simpa using hl) (by simpa using ht)
    simpa using this

theorem catU_len (l : List ISeg) : (catU l).length = tot l := by
  induction l with
  | nil => rfl
  | cons x r ih =>
    have e : (catU (x :: r)).length = x.f0.data.toList.length + (catU r).length := by simp [catU]
    have e2 : tot (x :: r) = x.f0.size + tot r := by simp [tot]
    rw [e, e2, ih, Array.length_toList, ByteArray.size_data]
theorem strOf_bytes (m : List UInt8) : strOfNums (m.map fun x => (x.toNat : Int)) = ⟨m.toArray⟩ := by
  simp only [strOfNums, List.map_map]
  congr 2
  induction m with
  | nil => rfl
  | cons x r ih => simp [ih]
theorem str_catU (l : List ISeg) : strOfNums (cat l) = ⟨(catU l).toArray⟩ := by
  rw [← strOf_bytes]
  congr 1
  simp only [cat, catU, bytesOf]
  induction l with
  | nil => rfl
  | cons x r ih => simp at ih ⊢; exact ih
theorem FnExactAllBytes : laws_FnExactAllBytes.Pure := by
  intro l c ⟨⟨hl, hb⟩, hc⟩
  obtain ⟨q, hq, hs⟩ := szStore_is l c hl (fun x hx => (hb x hx).1)
  refine Ev.rounds ?_
  unfold laws_FnExactAllBytes.f
  refine hq.bind ?_
  by_cases h : q < 0
  · simp only [h, if_true]; exact Ev.now _
  · simp only [h, if_false]
    obtain ⟨hl2, ht⟩ := hs (by omega)
    have ht' : tot (l.map cSeg) ≤ 1048576 := by rw [tot_conv]; exact ht
    have hl' : (l.map cSeg).length ≤ 1048576 := by simpa using hl2
    refine (toStore_is l c hl2).bind ?_
    refine (specAllBytes_is _ c hl' ht').bind ?_
    refine (toStore_is l c hl2).bind ?_
    refine Ev.bind (a := if storeOk (l.map cSeg) c = true then strOfNums (cat (l.map cSeg)) else (⟨#[]⟩ : ByteArray)) ?_ ?_
    · unfold impl_AllBytes.f
      refine (implStoreOk_is _ c hl' ht').bind ?_
      cases hk : storeOk (l.map cSeg) c
      · simpa using Ev.now (⟨#[]⟩ : ByteArray)
      · have hx : impl_Store_allBytes.f (l.map cSeg) c = some ⟨(catU (l.map cSeg)).toArray⟩ := by
          unfold impl_Store_allBytes.f
          rw [if_pos ⟨by rw [catU_len]; omega, by omega⟩]
        rw [if_pos rfl, if_pos rfl, hx, str_catU]
        exact Ev.now _
    simp only [if_true]
    refine (toStore_is l c hl2).bind ?_
    refine (eqStore_is _ c hl').bind ?_
    simpa using Ev.now true

end Go.Proofs.Ytkbkohknnfejlaa.Pure
