/- The law FnExactCleanPath holds: for every input the call returns true, and each argument reads as before. No condition beyond the given row's own. -/
import Derived.Lay
import Derived.Test.YtnfjjbpochmhpaaDoorRows
import Derived.Test.YtnfjjbpochmhpaaDoorGFnExactCleanPathx6
import Derived.Test.YtnfjjbpochmhpaaDoorPureFnExactCleanPath
import Derived.Test.YtnfjjbpochmhpaaDoorWOpen
import Derived.WalkKit
import Derived.ProofKit
import Derived.OpenShut
import Derived.ShutString
import Derived.ChangeOld
import Derived.Below
import Derived.SizedLaws
import Derived.HandedShaped
import Derived.Lib.SmallJoins
import Derived.Test.YtnfjjbpochmhpaaDoorWLay
import Derived.LaidMore
import Derived.MakeChecks
import Derived.Stop.Joined
import Derived.SevenTiedAt
import Derived.Test.YtnfjjbpochmhpaaDoorCards
import Derived.Test.YtnfjjbpochmhpaaDoorTie
namespace Go.Proofs.YtnfjjbpochmhpaaDoor.fnExactCleanPath
open Go.ChangeShapes Go.WideShapes Go.ChangeAt Go.RowKit Go.Proofs.YtnfjjbpochmhpaaDoorW.PrintWords Go.Proofs.YtnfjjbpochmhpaaDoorW.Open Go.Proofs.YtnfjjbpochmhpaaDoor.GFnExactCleanPath
open Go.ChangeMaps (open_string shut_string)
set_option linter.unusedVariables false
theorem own : ownKnob Tryd.prog.godebug = none := by kernel_rfl
theorem laidOut : laidOutB Tryd.prog = true := by kernel_rfl
/-- A start that holds the listed variables as listed. -/
theorem door_met (os : Os) (args : Array Value) : laidMetH Tryd.prog Rows.fnExactCleanPathRow.laid ((World.laidAll Tryd.prog os Rows.fnExactCleanPathRow.laid).forCall (fun _ _ => 0) ⟨#[], args, []⟩).memory := by
  rw [MakeChecks.laidMetH_plain _ _ _ (by kernel_rfl)]; exact laidMet_laidAll _ (by kernel_rfl) (by kernel_rfl)
set_option maxRecDepth 100000 in
theorem lifted (os : Os) (started : os.Started) (H : Type) (enc : TypeId × Value → H) :
    ReturnsInHanded {} Tryd.checked os 8 .any (fun w args => (Rows.fnExactCleanPathSpec.pre enc Tryd.prog Tryd.f8 Rows.fnExactCleanPathRow.domain false w args ∧ laidMetH Tryd.prog Rows.fnExactCleanPathRow.laid w) ∧ sizedMet enc Tryd.prog Tryd.f8 (OpenSpec.ofChange Rows.fnExactCleanPathSpec) false w args) (Rows.fnExactCleanPathSpec.post enc Tryd.prog Tryd.f8 false true false false) := by
  refine returnsInHanded_laid_shaped (C := Tryd.checked) (X := fun w _ => laidMetH Tryd.prog Rows.fnExactCleanPathRow.laid w) (fun _ _ _ hh h => h.of_heap hh) own started (by kernel_rfl) Tryd.func8
    (ChangeSpec.witness_shaped (enc := enc) (C := Tryd.checked) (os := os) (X := fun w _ => laidMetH Tryd.prog Rows.fnExactCleanPathRow.laid w) false (World.laidAll Tryd.prog os Rows.fnExactCleanPathRow.laid) #[.string ByteArray.empty] 8 (World.laidAll_os _ _ _) (World.shaped_of_ZipB (by kernel_rfl) (by kernel_rfl)) (by kernel_rfl) (by kernel_rfl) (by kernel_rfl) (door_met os _)) ?_
  intro W base args ds gs before hval0 hW hcnd hsz0 hsh hL _
  have hval : ∀ (j : Nat) t v, Tryd.f8.params[j]? = some t → args[j]? = some v → Value.okWide Tryd.prog W .any base t v := hval0
  have hW' := hW
  obtain ⟨p, q, hA0, hV, rfl, hfz, hnd⟩ := hW
  have hA : DataW.TrodAll enc Tryd.prog W 0 (fun _ => true) true Tryd.f8.params.toList args.toList ds p := hA0
  rw [Tryd.params8] at hA hval
  obtain ⟨v0, vs0, d0, ds0, p0, q0, hargs, rfl, rfl, h0, r0⟩ := trodAll_cons hA
  obtain ⟨rfl, rfl, rfl⟩ := trodAll_nil r0
  obtain rfl : args = #[v0] := by cases args; simp_all
  obtain ⟨rfl, rfl⟩ := trodVars_none hV
  obtain ⟨a0, rfl, rfl, rfl, y0⟩ := open_string Tryd.underlying9 (hval 0 9 v0 rfl rfl) h0
  have ok_0 : a0.size ≤ 9223372036854775807 := by simpa [maxLen] using y0
  clear hA0 hval0 hsz0
  refine (GFnExactCleanPath.laws_FnExactCleanPath.walk Pure.FnExactCleanPath a0 W (Gl.ofShaped hsh (MakeChecks.laidMetH_plain _ _ _ (by kernel_rfl) ▸ hL))  ok_0).mono fun e W' ⟨he, bel⟩ => ?_
  subst he
  exact ⟨_, rfl, _, _, _, [], _, [], hW', trodAll_mk1 (shut_bool Tryd.underlying4 _), (trodAll_cons_mk (shut_string Tryd.underlying9 y0) trodAll_mk0), rfl, bel.frame _, fun h => by cases h⟩
theorem over : Rows.fnExactCleanPathRow.holds Tryd.pinned (OpenSpec.ofChange Rows.fnExactCleanPathSpec) :=
  OpenClaim.holds_of_wide 8 Tryd.f8 rfl rfl rfl rfl rfl rfl rfl ⟨rfl, rfl, rfl, rfl, rfl⟩ rfl rfl rfl rfl rfl (by kernel_rfl) Tryd.func8 (by kernel_rfl)
    (of_decide_eq_true (by kernel_rfl)) (by unfold Func.isWrapper; first | (rw [if_pos (by decide +kernel)]; kernel_rfl) | (rw [if_neg (by decide +kernel)]; exact ⟨rfl, rfl⟩))
    (fun os started H enc _ => lifted os started H enc)
theorem proved : Rows.FnExactCleanPathSaid := over
/-- The tied card. -/
theorem card : Rows.FnExactCleanPathCardSaid :=
  Claim7.holds_tied_plain_at .later [] [.data, .pinned] true (true, "382841aeec0ae78fc5d536134a138f0b69dec0bb7e22f136289e580163386422") true
    proved (fun _ h => by cases h) (by kernel_rfl) (fun _ h => by cases h) fnExactCleanPath_row_tie rfl ⟨rfl, rfl⟩ (by kernel_rfl) rfl
    (fun f fn hf hfn => by
      obtain rfl : f = 8 := Option.some.inj ((show Tryd.prog.funcNamed "loop.example/g00651/laws.FnExactCleanPath" = some 8 by kernel_rfl).symm.trans hf) |>.symm
      obtain rfl : fn = Tryd.f8 := (Option.some.inj (Tryd.func8.symm.trans hfn)).symm
      exact ⟨by kernel_rfl, fun j t ht => by
        rw [Tryd.params8] at ht
        have hm : t ∈ [9] := by simpa using Array.mem_of_getElem? ht
        have hall : ([9].all fun u => !Tryd.prog.wantsStandIn u) = true := by kernel_rfl
        exact (show Tryd.prog.wantsStandIn t = false by simpa using List.all_eq_true.1 hall t hm)⟩)
    (by kernel_rfl)
#print axioms card
end Go.Proofs.YtnfjjbpochmhpaaDoor.fnExactCleanPath
namespace Go.Proofs.YtnfjjbpochmhpaaDoor
/-- The statement, under a short name, for the claim. -/
theorem fnExactCleanPath_holds : Rows.FnExactCleanPathCardSaid := fnExactCleanPath.card
end Go.Proofs.YtnfjjbpochmhpaaDoor
