/- Arguments opened by their types: from a reading of cells as data (DataW.trod) to the printed words' own reading of them (Kd.K), with what is known of numbers' and strings' sizes. Over any program. -/
import Derived.Test.YtnfjjbpochmhpaaDoorWWords
import Derived.ChangeArms
import Derived.Deep.Slices
import Derived.DataReads
import Derived.WideShapes
import Derived.Laws.Strings
import Derived.Attr
namespace Go.Proofs.YtnfjjbpochmhpaaDoorW.Open
open Go.RowKit Go.Proofs.YtnfjjbpochmhpaaDoorW.PrintWords Go.Deep Go.WideShapes

section
variable {H : Type} {P : Program} (enc : TypeId × Value → H) (w : World)

/-- Whatever is read at this type is of this kind, and fits. -/
def Opens (P : Program) {α : Type} (d : Kd α) (ok : α → Prop) (t : TypeId) : Prop :=
  ∀ (n : Nat) (cs : List Value) (x : DataW H × List MemPlace), DataW.trod enc P w 0 (fun _ => true) true n t cs = some x → ∃ y, d.K w y cs ∧ ok y
/-- .. of the fields from a place on. -/
def OpensFs (P : Program) {α : Type} (d : Kd α) (ok : α → Prop) (fs : List Field) (off : Nat) : Prop :=
  ∀ (n : Nat) (cs : List Value), cs.length = off + d.sz → (∀ f ∈ fs, ∃ x, DataW.trod enc P w 0 (fun _ => true) true n f.type ((cs.drop f.offset).take (P.cellsOf f.type)) = some x) → ∃ y, d.K w y (cs.drop off) ∧ ok y

variable {enc w}
theorem opens_int {t : TypeId} {k : IntKind} (hu : P.underlying t = some (.int k)) : Opens enc w P (Kd.int k) (fun a => (Lit.int k a).wf = true) t := by
  intro n cs x h
  obtain ⟨a, rfl, _, hw⟩ := DataW.trod_int hu h
  exact ⟨a, rfl, hw⟩
theorem opens_bool {t : TypeId} (hu : P.underlying t = some .bool) : Opens enc w P Kd.bool (fun _ => True) t := by
  intro n cs x h
  obtain ⟨a, rfl, _⟩ := DataW.trod_bool hu h
  exact ⟨a, rfl, trivial⟩
theorem opens_string {t : TypeId} (hu : P.underlying t = some .string) : Opens enc w P Kd.string (fun s => s.size ≤ 9223372036854775807) t := by
  intro n cs x h
  obtain ⟨s, rfl, _, hs⟩ := DataW.trod_string hu h
  exact ⟨s, rfl, by simpa [maxLen] using hs⟩
theorem opens_slice {α : Type} {d : Kd α} {ok : α → Prop} {t e : TypeId} (hu : P.underlying t = some (.slice e)) (hc : P.cellsOf e = d.sz) (he : Opens enc w P d ok e) :
    Opens enc w P (Kd.slice e d) (fun xs => xs.length ≤ 9223372036854775807 ∧ ∀ x ∈ xs, ok x) t := by
  intro n cs x h
  rcases open_slice hu h with ⟨rfl, _⟩ | ⟨a, len, cap, m, n', D, Pl, rfl, _, hl, hm, hmm, _, hx⟩
  · exact ⟨[], ⟨none, 0, rfl, Nat.le_refl _, rfl, by simp, fun h0 => absurd h0 (by simp)⟩, by simp, by simp⟩
  · have hmm' : m = cap := by simpa using hmm
    subst hmm'
    have hel : ∀ i, i < len → ∃ (y : α), ok y ∧ ∃ c, d.K w y c ∧ ∀ j u, c[j]? = some u → w.cell? (a.add (i * d.sz + j)) = some u := by
      intro i hi
      obtain ⟨cs', h1, h2⟩ := hx i (by omega)
      obtain ⟨y, hK, hok⟩ := he _ _ _ h2
      obtain ⟨_, hlen, hcell⟩ := World.cells?_some h1
      refine ⟨y, hok, cs', hK, fun j u hj => ?_⟩
      have hj' : j < cs'.length := (List.getElem?_eq_some_iff.1 hj).1
      have := hcell j (by omega)
      rw [Deep.add_add, hc] at this
      rw [this]; exact hj
    have hex : ∃ f : Fin len → α, ∀ i : Fin len, ok (f i) ∧ ∃ c, d.K w (f i) c ∧ ∀ j u, c[j]? = some u → w.cell? (a.add (i.val * d.sz + j)) = some u :=
      ⟨fun i => Classical.choose (hel i.val i.isLt), fun i => Classical.choose_spec (hel i.val i.isLt)⟩
    obtain ⟨f, hf⟩ := hex
    have hm' : m ≤ 9223372036854775807 := by simpa [maxLen] using hm
    refine ⟨List.ofFn f, ⟨some a, m, by simp, by simpa using hl, by simp, by simp; omega, fun _ => ⟨a, rfl, ?_⟩⟩, by simp; omega, ?_⟩
    · intro j p hj
      obtain ⟨hlt, hp⟩ := List.getElem?_eq_some_iff.1 hj
      have hlt' : j < len := by simpa using hlt
      rw [List.getElem_ofFn] at hp
      subst hp
      obtain ⟨_, c, hK, hcell⟩ := hf ⟨j, hlt'⟩
      exact ⟨c, d.K_len hK, hK, hcell⟩
    · intro x hx
      obtain ⟨i, rfl⟩ := List.mem_ofFn.1 hx
      exact (hf i).1
theorem opensFs_last {α : Type} {d : Kd α} {ok : α → Prop} {f : Field} {off : Nat} (ho : f.offset = off) (hc : P.cellsOf f.type = d.sz) (h : Opens enc w P d ok f.type) : OpensFs enc w P d ok [f] off := by
  intro n cs hl hf
  obtain ⟨x, hx⟩ := hf f (by simp)
  rw [ho, hc, List.take_of_length_le (by simp; omega)] at hx
  exact h _ _ _ hx
theorem opensFs_cons {α β : Type} {a : Kd α} {b : Kd β} {oka : α → Prop} {okb : β → Prop} {f : Field} {fs : List Field} {off : Nat} (ho : f.offset = off) (hc : P.cellsOf f.type = a.sz) (h : Opens enc w P a oka f.type) (hs : OpensFs enc w P b okb fs (off + a.sz)) :
    OpensFs enc w P (Kd.pair a b) (fun p => oka p.1 ∧ okb p.2) (f :: fs) off := by
  intro n cs hl hf
  have hl' : cs.length = off + (a.sz + b.sz) := hl
  obtain ⟨x, hx⟩ := hf f (by simp)
  rw [ho, hc] at hx
  obtain ⟨y, hK, hok⟩ := h _ _ _ hx
  obtain ⟨z, hKz, hokz⟩ := hs n cs (by omega) (fun g hg => hf g (List.mem_cons_of_mem _ hg))
  refine ⟨(y, z), ⟨(cs.drop off).take a.sz, cs.drop (off + a.sz), ?_, hK, hKz⟩, hok, hokz⟩
  rw [← List.drop_drop, List.take_append_drop]
theorem opens_struct {α : Type} {d : Kd α} {ok : α → Prop} {t : TypeId} {fs : Array Field} (hu : P.underlying t = some (.struct fs)) (hc : P.cellsOf t = d.sz) (h : OpensFs enc w P d ok fs.toList 0) : Opens enc w P d ok t := by
  intro n cs x hx
  obtain ⟨xs, n', _, _, hl, hlen, hf⟩ := DataW.trod_struct hu hx
  have := h n' cs (by omega) (fun f hm => by
    obtain ⟨i, hi, rfl⟩ := List.getElem_of_mem hm
    have hi' : i < fs.size := by simpa using hi
    have h1 := hf i fs[i] (by simp [hi'])
    rw [List.getElem?_eq_getElem (by omega)] at h1
    exact ⟨_, by simpa using h1⟩)
  simpa using this
theorem opens_iso {α β : Type} {d : Kd α} {ok : α → Prop} {t : TypeId} (f : β → α) (g : α → β) (hfg : ∀ x, f (g x) = x) (h : Opens enc w P d ok t) : Opens enc w P (Kd.iso d f) (fun y => ok (f y)) t := by
  intro n cs x hx
  obtain ⟨y, hK, hok⟩ := h n cs x hx
  exact ⟨g y, by show d.K w (f (g y)) cs; rw [hfg]; exact hK, by show ok (f (g y)); rw [hfg]; exact hok⟩
theorem opens_imp {α : Type} {d : Kd α} {ok ok' : α → Prop} {t : TypeId} (h : Opens enc w P d ok t) (hi : ∀ y, ok y → ok' y) : Opens enc w P d ok' t := fun n cs x hx => by
  obtain ⟨y, hK, hok⟩ := h n cs x hx
  exact ⟨y, hK, hi y hok⟩
/-- An argument: a struct. -/
theorem opened_agg {α : Type} {d : Kd α} {ok : α → Prop} {t : TypeId} {fs : Array Field} {r : Reach} {b0 : Nat} {v : Value} {D : DataW H} {p : List MemPlace} (h : Opens enc w P d ok t) (hu : P.underlying t = some (.struct fs)) (hv : Value.okWide P w r b0 t v)
    (ht : DataW.Trod enc P w 0 (fun _ => true) true t v D p) : ∃ cs y, v = .agg cs ∧ d.K w y cs.toList ∧ ok y := by
  obtain ⟨cs, rfl, _⟩ := okWide_struct hu hv
  obtain ⟨n, hn⟩ := ht
  obtain ⟨y, hK, hok⟩ := h _ _ _ hn
  exact ⟨cs, y, rfl, by simpa [Value.cells] using hK, hok⟩
/-- An argument: a slice. -/
theorem opened_slice {α : Type} {d : Kd α} {ok : α → Prop} {t e : TypeId} {r : Reach} {b0 : Nat} {v : Value} {D : DataW H} {p : List MemPlace} (h : Opens enc w P (Kd.slice e d) (fun xs => xs.length ≤ 9223372036854775807 ∧ ∀ x ∈ xs, ok x) t) (hu : P.underlying t = some (.slice e)) (hv : Value.okWide P w r b0 t v)
    (ht : DataW.Trod enc P w 0 (fun _ => true) true t v D p) : ∃ A xs c, v = .slice A xs.length c ∧ xs.length ≤ c ∧ d.C w A xs.length xs ∧ xs.length ≤ 9223372036854775807 ∧ ∀ x ∈ xs, ok x := by
  obtain ⟨a, len, cap, rfl⟩ := okWide_slice hu hv
  obtain ⟨n, hn⟩ := ht
  obtain ⟨xs, ⟨A, c, hcs, hl, hC⟩, hok⟩ := h _ _ _ hn
  have e1 : ([Value.slice a len cap] : List Value) = [.slice A xs.length c] := by simpa [Value.cells] using hcs
  injection e1 with e1 _
  exact ⟨A, xs, c, e1, hl, hC, hok⟩
end
/-! '>', '<=', '>=' of strings, as the print spells them. -/
theorem less_irrefl : ∀ l : List UInt8, Op.bytesLess l l = false
  | [] => rfl
  | a :: l => by simp [Op.bytesLess, less_irrefl l]
theorem less_total : ∀ l m : List UInt8, l ≠ m → Op.bytesLess l m = !Op.bytesLess m l
  | [], [], h => absurd rfl h
  | [], _ :: _, _ => rfl
  | _ :: _, [], _ => rfl
  | a :: l, b :: m, h => by
    by_cases e : a = b
    · subst e
      have := less_total l m (fun e => h (by rw [e]))
      simp [Op.bytesLess, this]
    · have hne : (a == b) = false := by simpa using e
      have hne' : (b == a) = false := by simpa using fun x => e x.symm
      simp only [Op.bytesLess, hne, hne', Bool.false_and, Bool.or_false]
      rcases Nat.lt_trichotomy a.toNat b.toNat with h1 | h1 | h1
      · have x1 : a < b := UInt8.lt_iff_toNat_lt.2 h1
        have x2 : ¬ b < a := fun x => by have := UInt8.lt_iff_toNat_lt.1 x; omega
        simp [x1, x2]
      · exact absurd (UInt8.toNat_inj.1 h1) e
      · have x1 : b < a := UInt8.lt_iff_toNat_lt.2 h1
        have x2 : ¬ a < b := fun x => by have := UInt8.lt_iff_toNat_lt.1 x; omega
        simp [x1, x2]
theorem less_or_eq (l m : List UInt8) : (Op.bytesLess l m || l == m) = !Op.bytesLess m l := by
  by_cases e : l = m
  · subst e; simp [less_irrefl]
  · rw [less_total _ _ e]; simp [e]
@[go_sem] theorem binOp_string_leq_ (t : TypeId) (a b : ByteArray) : binOp .leq t (.string a) (.string b) = pure (.bool (!Op.bytesLess b.toList a.toList)) := by simp [binOp, Op.stringOp, less_or_eq]
@[go_sem] theorem binOp_string_gtr_ (t : TypeId) (a b : ByteArray) : binOp .gtr t (.string a) (.string b) = pure (.bool (Op.bytesLess b.toList a.toList)) := by simp [binOp, Op.stringOp, less_or_eq]
@[go_sem] theorem binOp_string_geq_ (t : TypeId) (a b : ByteArray) : binOp .geq t (.string a) (.string b) = pure (.bool (!Op.bytesLess a.toList b.toList)) := by simp [binOp, Op.stringOp]
end Go.Proofs.YtnfjjbpochmhpaaDoorW.Open
