/- The law FnExactReadLine holds: for every input the call returns true, and each argument reads as before. No condition beyond the given row's own. -/
import Derived.Lay
import Derived.Test.YteojcbbifacpnaaGreatDoorRows
import Derived.Test.YteojcbbifacpnaaGreatDoorGFnExactReadLinex35
import Derived.Test.YteojcbbifacpnaaGreatDoorPureFnExactReadLine
import Derived.Test.YteojcbbifacpnaaGreatDoorVFnExactReadLine
import Derived.WalkKit
import Derived.ProofKit
import Derived.OpenShut
import Derived.ShutString
import Derived.ChangeOld
import Derived.Below
import Derived.SizedLaws
import Derived.HandedShaped
import Derived.Lib.SmallJoins
import Derived.LaidMore
import Derived.MakeChecks
import Derived.Stop.Joined
import Derived.SevenTiedAt
import Derived.Test.YteojcbbifacpnaaGreatDoorCards
import Derived.Test.YteojcbbifacpnaaGreatDoorTie
namespace Go.Proofs.YteojcbbifacpnaaGreatDoor.fnExactReadLine
open Go.ChangeShapes Go.WideShapes Go.ChangeAt Go.RowKit Go.Proofs.YteojcbbifacpnaaGreatDoorW.PrintWords Go.Proofs.YteojcbbifacpnaaGreatDoorW.Open Go.Proofs.YteojcbbifacpnaaGreatDoor.GFnExactReadLine
open Go.ChangeMaps (open_string shut_string)
set_option linter.unusedVariables false
theorem own : ownKnob Tryz.prog.godebug = none := by kernel_rfl
theorem laidOut : laidOutB Tryz.prog = true := by kernel_rfl
/-- A start that holds the listed variables as listed. -/
theorem door_met (os : Os) (args : Array Value) : laidMetH Tryz.prog Rows.fnExactReadLineRow.laid ((World.laidAll Tryz.prog os Rows.fnExactReadLineRow.laid).forCall (fun _ _ => 0) ⟨#[], args, []⟩).memory := by
  rw [MakeChecks.laidMetH_plain _ _ _ (by kernel_rfl)]; exact laidMet_laidAll _ (by kernel_rfl) (by kernel_rfl)
set_option maxRecDepth 100000 in
theorem lifted (os : Os) (started : os.Started) (H : Type) (enc : TypeId × Value → H) :
    ReturnsInHanded {} Tryz.checked os 8 .any (fun w args => (Rows.fnExactReadLineSpec.pre enc Tryz.prog Tryz.f8 Rows.fnExactReadLineRow.domain false w args ∧ laidMetH Tryz.prog Rows.fnExactReadLineRow.laid w) ∧ sizedMet enc Tryz.prog Tryz.f8 (OpenSpec.ofChange Rows.fnExactReadLineSpec) false w args) (Rows.fnExactReadLineSpec.post enc Tryz.prog Tryz.f8 false true false false) := by
  refine aV5 (C := Tryz.checked) (X := fun w _ => laidMetH Tryz.prog Rows.fnExactReadLineRow.laid w) (fun _ _ _ hh h => h.of_heap hh) own started (by kernel_rfl) Tryz.func8
    (ChangeSpec.witness_shaped (enc := enc) (C := Tryz.checked) (os := os) (X := fun w _ => laidMetH Tryz.prog Rows.fnExactReadLineRow.laid w) false (World.laidAll Tryz.prog os Rows.fnExactReadLineRow.laid) #[.string ByteArray.empty] 8 (World.laidAll_os _ _ _) (World.shaped_of_ZipB (by kernel_rfl) (by kernel_rfl)) (by kernel_rfl) (by kernel_rfl) (by kernel_rfl) (door_met os _)) ?_
  intro W base args ds gs before hval0 hW hcnd hsz0 hsh hL _
  have hval : ∀ (j : Nat) t v, Tryz.f8.params[j]? = some t → args[j]? = some v → Value.okWide Tryz.prog W .any base t v := hval0
  have hW' := hW
  obtain ⟨p, q, hA0, hV, rfl, hfz, hnd⟩ := hW
  have hA : DataW.TrodAll enc Tryz.prog W 0 (fun _ => true) true Tryz.f8.params.toList args.toList ds p := hA0
  rw [Tryz.params8] at hA hval
  obtain ⟨v0, vs0, d0, ds0, p0, q0, hargs, rfl, rfl, h0, r0⟩ := trodAll_cons hA
  obtain ⟨rfl, rfl, rfl⟩ := trodAll_nil r0
  obtain rfl : args = #[v0] := by cases args; simp_all
  obtain ⟨rfl, rfl⟩ := trodVars_none hV
  obtain ⟨a0, rfl, rfl, rfl, y0⟩ := open_string Tryz.underlying9 (hval 0 9 v0 rfl rfl) h0
  have ok_0 : a0.size ≤ 9223372036854775807 := by simpa [maxLen] using y0
  clear hA0 hval0 hsz0
  refine (GFnExactReadLine.laws_FnExactReadLine.walk Pure.FnExactReadLine a0 W (Gl.ofShaped hsh (MakeChecks.laidMetH_plain _ _ _ (by kernel_rfl) ▸ hL))  ok_0).mono fun e W' ⟨he, bel⟩ => ?_
  subst he
  exact ⟨_, rfl, _, _, _, [], _, [], hW', trodAll_mk1 (shut_bool Tryz.underlying4 _), (trodAll_cons_mk (shut_string Tryz.underlying9 y0) trodAll_mk0), rfl, bel.frame _, fun h => by cases h⟩
theorem over : Rows.fnExactReadLineRow.holds Tryz.pinned (OpenSpec.ofChange Rows.fnExactReadLineSpec) :=
  OpenClaim.holds_of_wide 8 Tryz.f8 rfl rfl rfl rfl rfl rfl rfl ⟨rfl, rfl, rfl, rfl, rfl⟩ rfl rfl rfl rfl rfl (by kernel_rfl) Tryz.func8 (by kernel_rfl)
    (of_decide_eq_true (by kernel_rfl)) (by unfold Func.isWrapper; first | (rw [if_pos (by decide +kernel)]; kernel_rfl) | (rw [if_neg (by decide +kernel)]; exact ⟨rfl, rfl⟩))
    (fun os started H enc _ => lifted os started H enc)
theorem proved : Rows.FnExactReadLineSaid := over
/-- The tied card. -/
theorem card : Rows.FnExactReadLineCardSaid :=
  Claim7.holds_tied_plain_at .later [] [.data, .data, .data, .data, .sentinel, .sentinel, .pinned] true (true, "5a28b5d7542dcc8d642ba9ffe51dbbf9937fe10bd1ea5449dcb550a1afa139af") true
    proved (fun _ h => by cases h) (by kernel_rfl) (fun _ h => by cases h) fnExactReadLine_row_tie rfl ⟨rfl, rfl⟩ (by kernel_rfl) rfl
    (fun f fn hf hfn => by
      obtain rfl : f = 8 := Option.some.inj ((show Tryz.prog.funcNamed "loop.example/g00651/laws.FnExactReadLine" = some 8 by kernel_rfl).symm.trans hf) |>.symm
      obtain rfl : fn = Tryz.f8 := (Option.some.inj (Tryz.func8.symm.trans hfn)).symm
      exact ⟨by kernel_rfl, fun j t ht => by
        rw [Tryz.params8] at ht
        have hm : t ∈ [9] := by simpa using Array.mem_of_getElem? ht
        have hall : ([9].all fun u => !Tryz.prog.wantsStandIn u) = true := by kernel_rfl
        exact (show Tryz.prog.wantsStandIn t = false by simpa using List.all_eq_true.1 hall t hm)⟩)
    (by kernel_rfl)
#print axioms card
end Go.Proofs.YteojcbbifacpnaaGreatDoor.fnExactReadLine
namespace Go.Proofs.YteojcbbifacpnaaGreatDoor
/-- The statement, under a short name, for the claim. -/
theorem fnExactReadLine_holds : Rows.FnExactReadLineCardSaid := fnExactReadLine.card
end Go.Proofs.YteojcbbifacpnaaGreatDoor
