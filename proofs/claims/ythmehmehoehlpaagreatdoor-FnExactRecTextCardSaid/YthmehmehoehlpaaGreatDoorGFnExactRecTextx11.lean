-- Printed by gen.py and its programs for this claim.
import Derived.Test.YthmehmehoehlpaaGreatDoorGFnExactRecTextx0
import Derived.Test.YthmehmehoehlpaaGreatDoorZFnExactRecText
namespace Go.Proofs.YthmehmehoehlpaaGreatDoor.GFnExactRecText
open Go.RowKit Go.Proofs.YthmehmehoehlpaaGreatDoorW.PrintWords Go.Proofs.YthmehmehoehlpaaGreatDoorW.PrintLast Go.Proofs.YthmehmehoehlpaaGreatDoorW.PrintMore Go.Proofs.YthmehmehoehlpaaGreatDoorW.Zs
set_option maxHeartbeats 40000000
set_option maxRecDepth 100000
attribute [local go_sem] max2_int min2_int max_two min_two max_three min_three max_four min_four
set_option linter.unusedVariables false
set_option linter.unusedSimpArgs false
def spec_l3f.f (a0 a1 a2 a3:Int):Option (Int):=if(wrap64 (Int.tdiv a0 20))=0 then(some (Go.bits .or .i64 (Go.bits .and .i64 a1 a2) (Go.bits .and .i64 (Go.bits .xor .i64 a1 4294967295) a3)))else(if(wrap64 (Int.tdiv a0 20))=2 then(some (Go.bits .or .i64 (Go.bits .or .i64 (Go.bits .and .i64 a1 a2) (Go.bits .and .i64 a1 a3)) (Go.bits .and .i64 a2 a3)))else(some (Go.bits .xor .i64 (Go.bits .xor .i64 a1 a2) a3)))
theorem spec_l3f.calls (a0 a1 a2 a3 r:Int) (w:World) (H:spec_l3f.f a0 a1 a2 a3=some r):
  Calls Tryz.prog 119 #[.int .i64 a0,.int .i64 a1,.int .i64 a2,.int .i64 a3] w fun e w'=>e= .returned (.int .i64 r)∧Drawn0 w w':=by
 unfold spec_l3f.f at H
 by_cases c0:(wrap64 (Int.tdiv a0 20))=0
 ·rw[if_pos c0]at H;obtain⟨f0,f1⟩:=bqT_ c0;clear c0;obtain rfl:=Option.some.inj H;go_enter Tryz.func119,Tryz.ntmps119
  go_wp2
  go_ret;exact⟨zr_,zd_⟩
 ·rw[if_neg c0]at H;obtain⟨f0,f1⟩:=bqF_ c0
  by_cases c1:(wrap64 (Int.tdiv a0 20))=2
  ·rw[if_pos c1]at H;obtain⟨f2,f3⟩:=bqT_ c1;clear c1;obtain rfl:=Option.some.inj H;go_enter Tryz.func119,Tryz.ntmps119
   go_wp2
   go_ret;exact⟨zr_,zd_⟩
  ·rw[if_neg c1]at H;obtain⟨f2,f3⟩:=bqF_ c1;obtain rfl:=Option.some.inj H;go_enter Tryz.func119,Tryz.ntmps119
   go_wp2
   go_ret;exact⟨zr_,zd_⟩
def spec_l3k.f (a0:Int):Option (Int):=if(wrap64 (Int.tdiv a0 20))=0 then(some 1518500249)else(if(wrap64 (Int.tdiv a0 20))=1 then(some 1859775393)else(if(wrap64 (Int.tdiv a0 20))=2 then(some 2400959708)else(some 3395469782)))
theorem spec_l3k.calls (a0 r:Int) (w:World) (H:spec_l3k.f a0=some r):
  Calls Tryz.prog 120 #[.int .i64 a0] w fun e w'=>e= .returned (.int .i64 r)∧Drawn0 w w':=by
 unfold spec_l3k.f at H
 by_cases c0:(wrap64 (Int.tdiv a0 20))=0
 ·rw[if_pos c0]at H;obtain⟨f0,f1⟩:=bqT_ c0;clear c0;obtain rfl:=Option.some.inj H;go_enter Tryz.func120,Tryz.ntmps120
  go_wp2
  go_ret;exact⟨zr_,zd_⟩
 ·rw[if_neg c0]at H;obtain⟨f0,f1⟩:=bqF_ c0
  by_cases c1:(wrap64 (Int.tdiv a0 20))=1
  ·rw[if_pos c1]at H;obtain⟨f2,f3⟩:=bqT_ c1;clear c1;obtain rfl:=Option.some.inj H;go_enter Tryz.func120,Tryz.ntmps120
   go_wp2
   go_ret;exact⟨zr_,zd_⟩
  ·rw[if_neg c1]at H;obtain⟨f2,f3⟩:=bqF_ c1
   by_cases c2:(wrap64 (Int.tdiv a0 20))=2
   ·rw[if_pos c2]at H;obtain⟨f4,f5⟩:=bqT_ c2;clear c2;obtain rfl:=Option.some.inj H;go_enter Tryz.func120,Tryz.ntmps120
    go_wp2
    go_ret;exact⟨zr_,zd_⟩
   ·rw[if_neg c2]at H;obtain⟨f4,f5⟩:=bqF_ c2;obtain rfl:=Option.some.inj H;go_enter Tryz.func120,Tryz.ntmps120
    go_wp2
    go_ret;exact⟨zr_,zd_⟩
end Go.Proofs.YthmehmehoehlpaaGreatDoor.GFnExactRecText
