/- []byte(s), written in place: the row that the conversion makes, as a list of whole numbers. -/
import Derived.Lib.ConvBytes
import Derived.Below
import Derived.Laws.BytesArg
import Derived.WalkKit
import Derived.Test.YtnfjjbpochmhpaaDoorWWords
namespace Go.Proofs.YtnfjjbpochmhpaaDoorW.PrintWords
open Go.RowKit
set_option linter.unusedVariables false
/-- Block g is a row of bytes; its first cells hold xs; none of its cells is frozen. -/
def BRow (w : World) (g : Nat) (xs : List Int) : Prop := ∃ (cs : Array Value) (e : TypeId), w.heap[g]? = some (.cells cs e (cs.size, cs.size + 1)) ∧ ∀ (j : Nat) (x : Int), xs[j]? = some x → cs[j]? = some (Value.int .u8 x)
theorem BRow.new (w : World) (e : TypeId) (s : ByteArray) : BRow (Lib.bytesWorld w e s) w.heap.size (bytesOf s) := by
  refine ⟨_, e, Lib.bytesWorld_at_new w e s, fun j x h => ?_⟩
  have hj : j < s.data.toList.length := by
    have : j < (bytesOf s).length := (List.getElem?_eq_some_iff.1 h).1
    simpa [bytesOf] using this
  have hx : x = ((s.data.toList[j]'hj).toNat : Int) := by
    have := (List.getElem?_eq_some_iff.1 h).2
    simp [bytesOf] at this
    simpa using this.symm
  simp at hj
  rw [hx, Lib.bytesCells, Array.getElem?_append_left (by simpa using hj)]
  simp [hj]
theorem BRow.cell {w : World} {g : Nat} {xs : List Int} (h : BRow w g xs) (j : Nat) (hj : j < xs.length) : w.cell? ⟨g, j, none⟩ = some (.int .u8 (xs.getD j 0)) := by
  obtain ⟨cs, e, h0, h1⟩ := h
  simp [World.cell?, h0]
  rw [h1 j xs[j] (List.getElem?_eq_getElem hj), List.getElem?_eq_getElem hj]
  rfl
theorem BRow.frozen {w : World} {g : Nat} {xs : List Int} (h : BRow w g xs) (j : Nat) (hj : j < xs.length) : w.frozen? ⟨g, j, none⟩ = false := by
  obtain ⟨cs, e, h0, h1⟩ := h
  have := (Array.getElem?_eq_some_iff.1 (h1 j xs[j] (List.getElem?_eq_getElem hj))).1
  simp [World.frozen?, h0]
  omega
theorem BRow.set {w : World} {g : Nat} {xs : List Int} (h : BRow w g xs) (j : Nat) (v : Int) : BRow (w.setCell ⟨g, j, none⟩ (.int .u8 v)) g (xs.set j v) := by
  obtain ⟨cs, e, h0, h1⟩ := h
  refine ⟨cs.setIfInBounds j (.int .u8 v), e, by simp [World.setCell, Array.getElem?_modify, h0], fun i x hx => ?_⟩
  by_cases hij : j = i
  · subst hij
    have hl := (List.getElem?_eq_some_iff.1 hx).1
    rw [List.length_set] at hl
    rw [List.getElem?_set_self hl] at hx
    injection hx with hx; subst hx
    have := (Array.getElem?_eq_some_iff.1 (h1 j xs[j] (List.getElem?_eq_getElem hl))).1
    rw [Array.getElem?_setIfInBounds_self_of_lt this]
  · rw [List.getElem?_set_ne hij] at hx
    rw [Array.getElem?_setIfInBounds_ne hij]
    exact h1 i x hx
theorem BRow.below {B : Nat} {w w' : World} {g : Nat} {xs : List Int} (h : BRow w g xs) (hb : Below B w w') (hg : g < B) : BRow w' g xs := by
  obtain ⟨cs, e, h0, h1⟩ := h
  exact ⟨cs, e, by rw [hb.block g hg]; exact h0, h1⟩
theorem BRow.string {P : Program} {w : World} {g n c : Nat} {xs : List Int} {src dst e : TypeId} (hs : P.underlying src = some (.slice e)) (he : P.underlying e = some (.int .u8)) (hd : P.underlying dst = some .string) (h : BRow w g xs) (hn : xs.length = n) :
    (convert src dst (.slice (some ⟨g, 0, none⟩) n c)).run P w = .ok (.string (strOfNums xs)) w := by
  refine run_convert_bytes_arg w src e hs he g 0 n c xs hn (fun i hi => ?_) dst hd
  simpa using h.cell i (by omega)
/-- Great letters made small. -/
def lowI (x : Int) : Int := if x ≥ 65 then (if x ≤ 90 then (x + 32) % 256 else x) else x
/-- The text so far: j bytes are lowered. -/
def lowTo (s : ByteArray) (j : Nat) : List Int := ((bytesOf s).take j).map lowI ++ (bytesOf s).drop j
theorem lowTo_length (s : ByteArray) (j : Nat) (h : j ≤ s.size) : (lowTo s j).length = s.size := by simp [lowTo, bytesOf_length]; omega
theorem lowTo_get (s : ByteArray) (j : Nat) (h : j < s.size) : (lowTo s j).getD j 0 = (bytesOf s).getD j 0 := by
  have hb := bytesOf_length s
  have h2 : (((bytesOf s).take j).map lowI).length = j := by simp; omega
  rw [lowTo, List.getD_eq_getElem?_getD, List.getElem?_append_right (by omega), h2, Nat.sub_self, List.getElem?_drop, Nat.add_zero, List.getD_eq_getElem?_getD]
theorem lowTo_set (s : ByteArray) (j : Nat) (h : j < s.size) : (lowTo s j).set j (lowI ((bytesOf s).getD j 0)) = lowTo s (j + 1) := by
  have hb := bytesOf_length s
  have h2 : (((bytesOf s).take j).map lowI).length = j := by simp; omega
  rw [lowTo, List.set_append_right _ _ (by omega), h2, Nat.sub_self, List.drop_eq_getElem_cons (by omega), List.set_cons_zero, lowTo, List.take_succ_eq_append_getElem (by omega)]
  rw [List.map_append, List.append_assoc]
  simp [List.getD_eq_getElem?_getD, List.getElem?_eq_getElem (show j < (bytesOf s).length by omega)]
theorem lowTo_zero (s : ByteArray) : lowTo s 0 = bytesOf s := by simp [lowTo]
theorem lowTo_all (s : ByteArray) : lowTo s s.size = (bytesOf s).map lowI := by
  have hb := bytesOf_length s
  rw [lowTo, List.take_of_length_le (by omega), List.drop_eq_nil_of_le (by omega), List.append_nil]
end Go.Proofs.YtnfjjbpochmhpaaDoorW.PrintWords
