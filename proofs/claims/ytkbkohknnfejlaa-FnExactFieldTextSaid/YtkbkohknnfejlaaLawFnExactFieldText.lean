/- The law FnExactFieldText holds: for every input the call returns true, and each argument reads as before. No condition beyond the given row's own. -/
import Derived.Test.YtkbkohknnfejlaaRows
import Derived.Test.YtkbkohknnfejlaaGFnExactFieldTextx3
import Derived.Test.YtkbkohknnfejlaaPureFnExactFieldText
import Derived.Test.YtkbkohknnfejlaaWOpen
import Derived.WalkKit
import Derived.ProofKit
import Derived.OpenShut
import Derived.ShutString
import Derived.ChangeOld
import Derived.Below
import Derived.SizedLaws
import Derived.HandedShaped
import Derived.Lib.SmallJoins
namespace Go.Proofs.Ytkbkohknnfejlaa.fnExactFieldText
open Go.ChangeShapes Go.WideShapes Go.ChangeAt Go.RowKit Go.Proofs.YtkbkohknnfejlaaW.PrintWords Go.Proofs.YtkbkohknnfejlaaW.Open Go.Proofs.Ytkbkohknnfejlaa.GFnExactFieldText
open Go.ChangeMaps (open_string shut_string)
set_option linter.unusedVariables false
theorem own : ownKnob Try.prog.godebug = none := by kernel_rfl
theorem laidOut : laidOutB Try.prog = true := by kernel_rfl
section
variable {H : Type} {enc : TypeId × Value → H} {w : World}
end
set_option maxRecDepth 100000 in
theorem lifted (os : Os) (started : os.Started) (H : Type) (enc : TypeId × Value → H) :
    ReturnsInHanded {} Try.checked os 7 .any (Rows.fnExactFieldTextSpec.pre6 enc Try.prog Try.f7 Rows.fnExactFieldTextRow.domain false) (Rows.fnExactFieldTextSpec.post enc Try.prog Try.f7 false true false false) := by
  refine returnsInHanded_of_change_shaped (C := Try.checked) own started (by kernel_rfl) Try.func7
    (ChangeSpec.witness6 (enc := enc) (C := Try.checked) false ⟨#[], #[.agg #[.string ByteArray.empty, .string ByteArray.empty]], []⟩ 8 (by kernel_rfl) (by kernel_rfl) (by kernel_rfl) (by kernel_rfl)) ?_
  intro W base args ds gs before hval0 hW hcnd hsz0 hsh _
  have hval : ∀ (j : Nat) t v, Try.f7.params[j]? = some t → args[j]? = some v → Value.okWide Try.prog W .any base t v := hval0
  have hW' := hW
  obtain ⟨p, q, hA0, hV, rfl, hfz, hnd⟩ := hW
  have hA : DataW.TrodAll enc Try.prog W 0 (fun _ => true) true Try.f7.params.toList args.toList ds p := hA0
  rw [Try.params7] at hA hval
  obtain ⟨v0, vs0, d0, ds0, p0, q0, hargs, rfl, rfl, h0, r0⟩ := trodAll_cons hA
  obtain ⟨rfl, rfl, rfl⟩ := trodAll_nil r0
  obtain rfl : args = #[v0] := by cases args; simp_all
  obtain ⟨rfl, rfl⟩ := trodVars_none hV
  have k0 := h0
  have lt0 : ∀ x ∈ p0, x.block < W.heap.size := by obtain ⟨m, hm⟩ := k0; exact DataW.trod_lt m _ _ _ hm
  obtain ⟨cs0, y0, rfl, hK0, hok0⟩ := opened_agg (d := (Kd.pair Kd.string Kd.string)) (opens_struct Try.underlying32 (by kernel_rfl) (opensFs_cons rfl (by kernel_rfl) (opens_string Try.underlying9) (opensFs_last rfl (by kernel_rfl) (opens_string Try.underlying9)))) Try.underlying32 (hval 0 32 v0 rfl rfl) h0
  obtain ⟨a0_0, a0_1, rfl, ok_0⟩ : ∃ (a0_0 : ByteArray) (a0_1 : ByteArray), cs0 = #[.string a0_0, .string a0_1] ∧ ((a0_0.size ≤ 9223372036854775807) ∧ (a0_1.size ≤ 9223372036854775807)) := by
    obtain ⟨cs0⟩ := cs0
    obtain ⟨x0_0, x0_1⟩ := y0
    have hK := (show Kd.K (Kd.pair Kd.string Kd.string) W _ cs0 from hK0)
    clear hK0
    obtain ⟨_, _, rfl, rfl, rfl⟩ := hK
    exact ⟨x0_0, x0_1, rfl, hok0⟩
  clear hA0 hval0 hsz0
  refine (GFnExactFieldText.laws_FnExactFieldText.walk Pure.FnExactFieldText a0_0 a0_1 W  ok_0).mono fun e W' ⟨he, bel⟩ => ?_
  subst he
  exact ⟨_, rfl, _, _, _, [], _, [], hW', trodAll_mk1 (shut_bool Try.underlying4 _), (trodAll_cons_mk (Below.trod laidOut (by kernel_rfl) (of_decide_eq_true (by kernel_rfl)) k0 bel lt0) trodAll_mk0), rfl, bel.frame _, fun h => by cases h⟩
theorem over : Rows.fnExactFieldTextRow.holds Try.pinned (OpenSpec.ofChange Rows.fnExactFieldTextSpec) :=
  OpenClaim.holds_of_wide 7 Try.f7 rfl rfl rfl rfl rfl rfl rfl ⟨rfl, rfl, rfl, rfl, rfl⟩ rfl rfl rfl rfl rfl (by kernel_rfl) Try.func7 (by kernel_rfl)
    (of_decide_eq_true (by kernel_rfl)) (by unfold Func.isWrapper; first | (rw [if_pos (by decide +kernel)]; kernel_rfl) | (rw [if_neg (by decide +kernel)]; exact ⟨rfl, rfl⟩))
    (fun os started H enc _ => lifted os started H enc)
theorem proved : Rows.FnExactFieldTextSaid := over
#print axioms proved
end Go.Proofs.Ytkbkohknnfejlaa.fnExactFieldText
namespace Go.Proofs.Ytkbkohknnfejlaa
/-- The row, under a short name, for the claim. -/
theorem fnExactFieldText_holds : Rows.FnExactFieldTextSaid := fnExactFieldText.proved
end Go.Proofs.Ytkbkohknnfejlaa
