/- The law FnExactAllBytes holds: for every input the call returns true, and each argument reads as before. No condition beyond the given row's own. -/
import Derived.Test.YtkbkohknnfejlaaRows
import Derived.Test.YtkbkohknnfejlaaGFnExactAllBytesx4
import Derived.Test.YtkbkohknnfejlaaPureFnExactAllBytes
import Derived.Test.YtkbkohknnfejlaaWOpen
import Derived.WalkKit
import Derived.ProofKit
import Derived.OpenShut
import Derived.ShutString
import Derived.ChangeOld
import Derived.Below
import Derived.SizedLaws
import Derived.HandedShaped
import Derived.Lib.SmallJoins
namespace Go.Proofs.Ytkbkohknnfejlaa.fnExactAllBytes
open Go.ChangeShapes Go.WideShapes Go.ChangeAt Go.RowKit Go.Proofs.YtkbkohknnfejlaaW.PrintWords Go.Proofs.YtkbkohknnfejlaaW.Open Go.Proofs.Ytkbkohknnfejlaa.GFnExactAllBytes
open Go.ChangeMaps (open_string shut_string)
set_option linter.unusedVariables false
theorem own : ownKnob Try.prog.godebug = none := by kernel_rfl
theorem laidOut : laidOutB Try.prog = true := by kernel_rfl
section
variable {H : Type} {enc : TypeId × Value → H} {w : World}
theorem opens90 : Opens enc w Try.prog k90 ok90 90 :=
  opens_iso (fun x : S90 => (x.f0, x.f1)) (fun p => ⟨p.1, p.2⟩) (fun _ => rfl) (opens_struct Try.underlying90 (by kernel_rfl) (opensFs_cons rfl (by kernel_rfl) (opens_string Try.underlying9) (opensFs_last rfl (by kernel_rfl) (opens_int Try.underlying3))))
end
set_option maxRecDepth 100000 in
theorem lifted (os : Os) (started : os.Started) (H : Type) (enc : TypeId × Value → H) :
    ReturnsInHanded {} Try.checked os 12 .any (Rows.fnExactAllBytesSpec.pre6 enc Try.prog Try.f12 Rows.fnExactAllBytesRow.domain false) (Rows.fnExactAllBytesSpec.post enc Try.prog Try.f12 false true false false) := by
  refine returnsInHanded_of_change_shaped (C := Try.checked) own started (by kernel_rfl) Try.func12
    (ChangeSpec.witness6 (enc := enc) (C := Try.checked) false ⟨#[], #[.agg #[.slice none 0 0, .int .i64 0]], []⟩ 8 (by kernel_rfl) (by kernel_rfl) (by kernel_rfl) (by kernel_rfl)) ?_
  intro W base args ds gs before hval0 hW hcnd hsz0 hsh _
  have hval : ∀ (j : Nat) t v, Try.f12.params[j]? = some t → args[j]? = some v → Value.okWide Try.prog W .any base t v := hval0
  have hW' := hW
  obtain ⟨p, q, hA0, hV, rfl, hfz, hnd⟩ := hW
  have hA : DataW.TrodAll enc Try.prog W 0 (fun _ => true) true Try.f12.params.toList args.toList ds p := hA0
  rw [Try.params12] at hA hval
  obtain ⟨v0, vs0, d0, ds0, p0, q0, hargs, rfl, rfl, h0, r0⟩ := trodAll_cons hA
  obtain ⟨rfl, rfl, rfl⟩ := trodAll_nil r0
  obtain rfl : args = #[v0] := by cases args; simp_all
  obtain ⟨rfl, rfl⟩ := trodVars_none hV
  have k0 := h0
  have lt0 : ∀ x ∈ p0, x.block < W.heap.size := by obtain ⟨m, hm⟩ := k0; exact DataW.trod_lt m _ _ _ hm
  obtain ⟨cs0, y0, rfl, hK0, hok0⟩ := opened_agg (d := (Kd.pair (Kd.slice 90 k90) (Kd.int .i64))) (opens_struct Try.underlying44 (by kernel_rfl) (opensFs_cons rfl (by kernel_rfl) (opens_slice Try.underlying42 (by kernel_rfl) opens90) (opensFs_last rfl (by kernel_rfl) (opens_int Try.underlying3)))) Try.underlying44 (hval 0 44 v0 rfl rfl) h0
  obtain ⟨A0_0, c0_0, l0_0, a0_1, rfl, hc0_0, hr0_0, ok_0⟩ : ∃ (A0_0 : Option Addr) (c0_0 : Nat) (l0_0 : List (S90)) (a0_1 : Int), cs0 = #[.slice A0_0 l0_0.length c0_0, .int .i64 a0_1] ∧ l0_0.length ≤ c0_0 ∧ Kd.C k90 W A0_0 l0_0.length l0_0 ∧ ((l0_0.length ≤ 9223372036854775807 ∧ ∀ x ∈ l0_0, ok90 x) ∧ ((Lit.int .i64 a0_1).wf = true)) := by
    obtain ⟨cs0⟩ := cs0
    obtain ⟨x0_0, x0_1⟩ := y0
    have hK := (show Kd.K (Kd.pair (Kd.slice 90 k90) (Kd.int .i64)) W _ cs0 from hK0)
    clear hK0
    obtain ⟨_, _, rfl, ⟨A0_0, c0_0, rfl, hl0_0, hC0_0⟩, rfl⟩ := hK
    exact ⟨A0_0, c0_0, x0_0, x0_1, rfl, hl0_0, hC0_0, hok0⟩
  clear hA0 hval0 hsz0
  refine (GFnExactAllBytes.laws_FnExactAllBytes.walk Pure.FnExactAllBytes A0_0 c0_0 l0_0 a0_1 W hr0_0 hc0_0 ok_0).mono fun e W' ⟨he, bel⟩ => ?_
  subst he
  exact ⟨_, rfl, _, _, _, [], _, [], hW', trodAll_mk1 (shut_bool Try.underlying4 _), (trodAll_cons_mk (Below.trod laidOut (by kernel_rfl) (of_decide_eq_true (by kernel_rfl)) k0 bel lt0) trodAll_mk0), rfl, bel.frame _, fun h => by cases h⟩
theorem over : Rows.fnExactAllBytesRow.holds Try.pinned (OpenSpec.ofChange Rows.fnExactAllBytesSpec) :=
  OpenClaim.holds_of_wide 12 Try.f12 rfl rfl rfl rfl rfl rfl rfl ⟨rfl, rfl, rfl, rfl, rfl⟩ rfl rfl rfl rfl rfl (by kernel_rfl) Try.func12 (by kernel_rfl)
    (of_decide_eq_true (by kernel_rfl)) (by unfold Func.isWrapper; first | (rw [if_pos (by decide +kernel)]; kernel_rfl) | (rw [if_neg (by decide +kernel)]; exact ⟨rfl, rfl⟩))
    (fun os started H enc _ => lifted os started H enc)
theorem proved : Rows.FnExactAllBytesSaid := over
#print axioms proved
end Go.Proofs.Ytkbkohknnfejlaa.fnExactAllBytes
namespace Go.Proofs.Ytkbkohknnfejlaa
/-- The row, under a short name, for the claim. -/
theorem fnExactAllBytes_holds : Rows.FnExactAllBytesSaid := fnExactAllBytes.proved
end Go.Proofs.Ytkbkohknnfejlaa
