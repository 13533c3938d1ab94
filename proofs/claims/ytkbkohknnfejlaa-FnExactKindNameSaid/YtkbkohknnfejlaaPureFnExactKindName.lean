/- KindName of the program and of the reference agree: both are "" outside of 0 .. 4 and the same five names inside. No condition. -/
import Derived.Test.YtkbkohknnfejlaaPFnExactKindNamex1
namespace Go.Proofs.Ytkbkohknnfejlaa.Pure
open Go.RowKit Go.Proofs.Ytkbkohknnfejlaa.PFnExactKindName Go.Proofs.YtkbkohknnfejlaaW.PrintWords Go.Proofs.YtkbkohknnfejlaaW.PrintLast

theorem FnExactKindName : laws_FnExactKindName.Pure := by
  intro a hwf
  by_cases h : 0 ≤ a ∧ a ≤ 4
  · have : a = 0 ∨ a = 1 ∨ a = 2 ∨ a = 3 ∨ a = 4 := by omega
    rcases this with rfl | rfl | rfl | rfl | rfl <;> simp [laws_FnExactKindName.f, spec_KindName.f, impl_KindName.f, impl_within.f, rdOf]
  · unfold laws_FnExactKindName.f spec_KindName.f impl_KindName.f impl_within.f
    rw [if_neg (by omega), if_neg (by omega), if_neg (by omega), if_neg (by omega), if_neg (by omega)]
    by_cases h0 : 0 ≤ a
    · rw [if_pos h0]; simp [show ¬ a ≤ 4 by omega]
    · rw [if_neg h0]; simp

end Go.Proofs.Ytkbkohknnfejlaa.Pure
