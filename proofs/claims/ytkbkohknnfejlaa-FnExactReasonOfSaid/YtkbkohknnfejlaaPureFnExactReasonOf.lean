/- ReasonOf of the program and of the reference agree: both are the same switch. No condition. -/
import Derived.Test.YtkbkohknnfejlaaPFnExactReasonOfx1
namespace Go.Proofs.Ytkbkohknnfejlaa.Pure
open Go.RowKit Go.Proofs.Ytkbkohknnfejlaa.PFnExactReasonOf Go.Proofs.YtkbkohknnfejlaaW.PrintWords Go.Proofs.YtkbkohknnfejlaaW.PrintLast

theorem FnExactReasonOf : laws_FnExactReasonOf.Pure := by
  intro a hwf
  have e : impl_ReasonOf.f a = spec_ReasonOf.f a := rfl
  have h : ∃ r, spec_ReasonOf.f a = some r := by
    unfold spec_ReasonOf.f
    repeat (first | exact ⟨_, rfl⟩ | split)
  obtain ⟨r, hr⟩ := h
  unfold laws_FnExactReasonOf.f
  rw [e, hr]
  simp

end Go.Proofs.Ytkbkohknnfejlaa.Pure
