/- The law FnExactWriteMsg holds: for every input the call returns true, and each argument reads as before. No condition beyond the given row's own. -/
import Derived.Test.YtnfjjbpochmhpaaDoorRows
import Derived.Test.YtnfjjbpochmhpaaDoorGFnExactWriteMsgx11
import Derived.Test.YtnfjjbpochmhpaaDoorPureFnExactWriteMsg
import Derived.Test.YtnfjjbpochmhpaaDoorVFnExactWriteMsg
import Derived.WalkKit
import Derived.ProofKit
import Derived.OpenShut
import Derived.ShutString
import Derived.ChangeOld
import Derived.Below
import Derived.SizedLaws
import Derived.HandedShaped
import Derived.Lib.SmallJoins
import Derived.LaidMore
import Derived.MakeChecks
import Derived.Stop.Joined
import Derived.SevenTiedAt
import Derived.Test.YtnfjjbpochmhpaaDoorCards
import Derived.Test.YtnfjjbpochmhpaaDoorTie
namespace Go.Proofs.YtnfjjbpochmhpaaDoor.fnExactWriteMsg
open Go.ChangeShapes Go.WideShapes Go.ChangeAt Go.RowKit Go.Proofs.YtnfjjbpochmhpaaDoorW.PrintWords Go.Proofs.YtnfjjbpochmhpaaDoorW.Open Go.Proofs.YtnfjjbpochmhpaaDoor.GFnExactWriteMsg
open Go.ChangeMaps (open_string shut_string)
set_option linter.unusedVariables false
theorem own : ownKnob Tryd.prog.godebug = none := by kernel_rfl
theorem laidOut : laidOutB Tryd.prog = true := by kernel_rfl
section
variable {H : Type} {enc : TypeId × Value → H} {w : World}
theorem opens74 : Opens enc w Tryd.prog k74 ok74 74 :=
  opens_iso (fun x : S74 => (x.f0, x.f1)) (fun p => ⟨p.1, p.2⟩) (fun _ => rfl) (opens_struct Tryd.underlying74 (by kernel_rfl) (opensFs_cons rfl (by kernel_rfl) (opens_string Tryd.underlying9) (opensFs_last rfl (by kernel_rfl) (opens_string Tryd.underlying9))))
end
/-- The heap that the start's own run leaves meets the condition. -/
theorem door_met (os : Os) (args : Array Value) : laidMetH Tryd.prog Rows.fnExactWriteMsgRow.laid ((World.doorLaid Tryd.prog 4000 os).forCall (fun _ _ => 0) ⟨#[], args, []⟩).memory :=
  laidMetH_of_parts3 (fuel := 8) (laidMet_of_run' 8 (by kernel_rfl) (by kernel_rfl)) (by kernel_rfl) (by kernel_rfl)
set_option maxRecDepth 100000 in
theorem lifted (os : Os) (started : os.Started) (H : Type) (enc : TypeId × Value → H) :
    ReturnsInHanded {} Tryd.checked os 7 .any (fun w args => (Rows.fnExactWriteMsgSpec.pre enc Tryd.prog Tryd.f7 Rows.fnExactWriteMsgRow.domain false w args ∧ laidMetH Tryd.prog Rows.fnExactWriteMsgRow.laid w) ∧ sizedMet enc Tryd.prog Tryd.f7 (OpenSpec.ofChange Rows.fnExactWriteMsgSpec) false w args) (Rows.fnExactWriteMsgSpec.post enc Tryd.prog Tryd.f7 false true false false) := by
  refine returnsInHanded_laid_shaped (C := Tryd.checked) (X := fun w _ => laidMetH Tryd.prog Rows.fnExactWriteMsgRow.laid w) (fun _ _ _ hh h => h.of_heap hh) own started (by kernel_rfl) Tryd.func7
    (ChangeSpec.witness_shaped (enc := enc) (C := Tryd.checked) (os := os) (X := fun w _ => laidMetH Tryd.prog Rows.fnExactWriteMsgRow.laid w) false (World.doorLaid Tryd.prog 4000 os) #[.agg #[.string ByteArray.empty, .string ByteArray.empty, .int .i64 0, .string ByteArray.empty, .bool false, .slice none 0 0, .string ByteArray.empty]] 8 rfl (World.shaped_of_RefB (by kernel_rfl) (by kernel_rfl)) (by kernel_rfl) (by kernel_rfl) (by kernel_rfl) (door_met os _)) ?_
  intro W base args ds gs before hval0 hW hcnd hsz0 hsh hL _
  have hval : ∀ (j : Nat) t v, Tryd.f7.params[j]? = some t → args[j]? = some v → Value.okWide Tryd.prog W .any base t v := hval0
  have hW' := hW
  obtain ⟨p, q, hA0, hV, rfl, hfz, hnd⟩ := hW
  have hA : DataW.TrodAll enc Tryd.prog W 0 (fun _ => true) true Tryd.f7.params.toList args.toList ds p := hA0
  rw [Tryd.params7] at hA hval
  obtain ⟨v0, vs0, d0, ds0, p0, q0, hargs, rfl, rfl, h0, r0⟩ := trodAll_cons hA
  obtain ⟨rfl, rfl, rfl⟩ := trodAll_nil r0
  obtain rfl : args = #[v0] := by cases args; simp_all
  obtain ⟨rfl, rfl⟩ := trodVars_none hV
  have k0 := h0
  have lt0 : ∀ x ∈ p0, x.block < W.heap.size := by obtain ⟨m, hm⟩ := k0; exact DataW.trod_lt m _ _ _ hm
  obtain ⟨cs0, y0, rfl, hK0, hok0⟩ := opened_agg (d := (Kd.pair Kd.string (Kd.pair Kd.string (Kd.pair (Kd.int .i64) (Kd.pair Kd.string (Kd.pair Kd.bool (Kd.pair (Kd.slice 74 k74) Kd.string))))))) (opens_struct Tryd.underlying29 (by kernel_rfl) (opensFs_cons rfl (by kernel_rfl) (opens_string Tryd.underlying9) (opensFs_cons rfl (by kernel_rfl) (opens_string Tryd.underlying9) (opensFs_cons rfl (by kernel_rfl) (opens_int Tryd.underlying3) (opensFs_cons rfl (by kernel_rfl) (opens_string Tryd.underlying9) (opensFs_cons rfl (by kernel_rfl) (opens_bool Tryd.underlying4) (opensFs_cons rfl (by kernel_rfl) (opens_slice Tryd.underlying27 (by kernel_rfl) opens74) (opensFs_last rfl (by kernel_rfl) (opens_string Tryd.underlying9))))))))) Tryd.underlying29 (hval 0 29 v0 rfl rfl) h0
  obtain ⟨a0_0, a0_1, a0_2, a0_3, a0_4, A0_5, c0_5, l0_5, a0_6, rfl, hc0_5, hr0_5, ok_0⟩ : ∃ (a0_0 : ByteArray) (a0_1 : ByteArray) (a0_2 : Int) (a0_3 : ByteArray) (a0_4 : Bool) (A0_5 : Option Addr) (c0_5 : Nat) (l0_5 : List (S74)) (a0_6 : ByteArray), cs0 = #[.string a0_0, .string a0_1, .int .i64 a0_2, .string a0_3, .bool a0_4, .slice A0_5 l0_5.length c0_5, .string a0_6] ∧ l0_5.length ≤ c0_5 ∧ Kd.C k74 W A0_5 l0_5.length l0_5 ∧ ((a0_0.size ≤ 9223372036854775807) ∧ (a0_1.size ≤ 9223372036854775807) ∧ ((Lit.int .i64 a0_2).wf = true) ∧ (a0_3.size ≤ 9223372036854775807) ∧ (True) ∧ (l0_5.length ≤ 9223372036854775807 ∧ ∀ x ∈ l0_5, ok74 x) ∧ (a0_6.size ≤ 9223372036854775807)) := by
    obtain ⟨cs0⟩ := cs0
    obtain ⟨x0_0, x0_1, x0_2, x0_3, x0_4, x0_5, x0_6⟩ := y0
    have hK := (show Kd.K (Kd.pair Kd.string (Kd.pair Kd.string (Kd.pair (Kd.int .i64) (Kd.pair Kd.string (Kd.pair Kd.bool (Kd.pair (Kd.slice 74 k74) Kd.string)))))) W _ cs0 from hK0)
    clear hK0
    obtain ⟨_, _, rfl, rfl, ⟨_, _, rfl, rfl, ⟨_, _, rfl, rfl, ⟨_, _, rfl, rfl, ⟨_, _, rfl, rfl, ⟨_, _, rfl, ⟨A0_5, c0_5, rfl, hl0_5, hC0_5⟩, rfl⟩⟩⟩⟩⟩⟩ := hK
    exact ⟨x0_0, x0_1, x0_2, x0_3, x0_4, A0_5, c0_5, x0_5, x0_6, rfl, hl0_5, hC0_5, hok0⟩
  clear hA0 hval0 hsz0
  refine (GFnExactWriteMsg.laws_FnExactWriteMsg.walk Pure.FnExactWriteMsg a0_0 a0_1 a0_2 a0_3 a0_4 A0_5 c0_5 l0_5 a0_6 W (Gl.ofShaped hsh (MakeChecks.laidMetH_plain _ _ _ (by kernel_rfl) ▸ hL)) hr0_5 hc0_5 ok_0).mono fun e W' ⟨he, bel⟩ => ?_
  subst he
  exact ⟨_, rfl, _, _, _, [], _, [], hW', trodAll_mk1 (shut_bool Tryd.underlying4 _), (trodAll_cons_mk (Below.trod laidOut (by kernel_rfl) (of_decide_eq_true (by kernel_rfl)) k0 bel lt0) trodAll_mk0), rfl, bel.frame _, fun h => by cases h⟩
theorem over : Rows.fnExactWriteMsgRow.holds Tryd.pinned (OpenSpec.ofChange Rows.fnExactWriteMsgSpec) :=
  OpenClaim.holds_of_wide 7 Tryd.f7 rfl rfl rfl rfl rfl rfl rfl ⟨rfl, rfl, rfl, rfl, rfl⟩ rfl rfl rfl rfl rfl (by kernel_rfl) Tryd.func7 (by kernel_rfl)
    (of_decide_eq_true (by kernel_rfl)) (by unfold Func.isWrapper; first | (rw [if_pos (by decide +kernel)]; kernel_rfl) | (rw [if_neg (by decide +kernel)]; exact ⟨rfl, rfl⟩))
    (fun os started H enc _ => lifted os started H enc)
theorem proved : Rows.FnExactWriteMsgSaid := over
/-- The tied card. -/
theorem card : Rows.FnExactWriteMsgCardSaid :=
  Claim7.holds_tied_plain_at .later [] [.data, .data, .data] true (true, "382841aeec0ae78fc5d536134a138f0b69dec0bb7e22f136289e580163386422") true
    proved (fun _ h => by cases h) (by kernel_rfl) (fun _ h => by cases h) fnExactWriteMsg_row_tie rfl ⟨rfl, rfl⟩ (by kernel_rfl) rfl
    (fun f fn hf hfn => by
      obtain rfl : f = 7 := Option.some.inj ((show Tryd.prog.funcNamed "loop.example/g00651/laws.FnExactWriteMsg" = some 7 by kernel_rfl).symm.trans hf) |>.symm
      obtain rfl : fn = Tryd.f7 := (Option.some.inj (Tryd.func7.symm.trans hfn)).symm
      exact ⟨by kernel_rfl, fun j t ht => by
        rw [Tryd.params7] at ht
        have hm : t ∈ [29] := by simpa using Array.mem_of_getElem? ht
        have hall : ([29].all fun u => !Tryd.prog.wantsStandIn u) = true := by kernel_rfl
        exact (show Tryd.prog.wantsStandIn t = false by simpa using List.all_eq_true.1 hall t hm)⟩)
    (by kernel_rfl)
#print axioms card
end Go.Proofs.YtnfjjbpochmhpaaDoor.fnExactWriteMsg
namespace Go.Proofs.YtnfjjbpochmhpaaDoor
/-- The statement, under a short name, for the claim. -/
theorem fnExactWriteMsg_holds : Rows.FnExactWriteMsgCardSaid := fnExactWriteMsg.card
end Go.Proofs.YtnfjjbpochmhpaaDoor
