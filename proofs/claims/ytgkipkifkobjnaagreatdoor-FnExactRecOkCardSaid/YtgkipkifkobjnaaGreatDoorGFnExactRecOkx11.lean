-- Printed by gen.py and its programs for this claim.
import Derived.Test.YtgkipkifkobjnaaGreatDoorGFnExactRecOkx0
import Derived.Test.YtgkipkifkobjnaaGreatDoorZFnExactRecOk
namespace Go.Proofs.YtgkipkifkobjnaaGreatDoor.GFnExactRecOk
open Go.RowKit Go.Proofs.YtgkipkifkobjnaaGreatDoorW.PrintWords Go.Proofs.YtgkipkifkobjnaaGreatDoorW.PrintLast Go.Proofs.YtgkipkifkobjnaaGreatDoorW.PrintMore Go.Proofs.YtgkipkifkobjnaaGreatDoorW.Zs
set_option maxHeartbeats 40000000
set_option maxRecDepth 100000
attribute [local go_sem] max2_int min2_int max_two min_two max_three min_three max_four min_four
set_option linter.unusedVariables false
set_option linter.unusedSimpArgs false
def spec_l3f.f (a0 a1 a2 a3:Int):Option (Int):=if(wrap64 (Int.tdiv a0 20))=0 then(some (Go.bits .or .i64 (Go.bits .and .i64 a1 a2) (Go.bits .and .i64 (Go.bits .xor .i64 a1 4294967295) a3)))else(if(wrap64 (Int.tdiv a0 20))=2 then(some (Go.bits .or .i64 (Go.bits .or .i64 (Go.bits .and .i64 a1 a2) (Go.bits .and .i64 a1 a3)) (Go.bits .and .i64 a2 a3)))else(some (Go.bits .xor .i64 (Go.bits .xor .i64 a1 a2) a3)))
theorem spec_l3f.calls (a0 a1 a2 a3 r:Int) (w:World) (h:spec_l3f.f a0 a1 a2 a3=some r):
  Calls Tryz.prog 86 #[.int .i64 a0,.int .i64 a1,.int .i64 a2,.int .i64 a3] w fun e w'=>e= .returned (.int .i64 r)∧Drawn0 w w':=by
 have H:(if(wrap64 (Int.tdiv a0 20))=0 then(some (Go.bits .or .i64 (Go.bits .and .i64 a1 a2) (Go.bits .and .i64 (Go.bits .xor .i64 a1 4294967295) a3)))else(if(wrap64 (Int.tdiv a0 20))=2 then(some (Go.bits .or .i64 (Go.bits .or .i64 (Go.bits .and .i64 a1 a2) (Go.bits .and .i64 a1 a3)) (Go.bits .and .i64 a2 a3)))else(some (Go.bits .xor .i64 (Go.bits .xor .i64 a1 a2) a3))))=some r:=h;clear h
 by_cases c5:(wrap64 (Int.tdiv a0 20))=0
 ·rw[if_pos c5]at H;have c5b0:((wrap64 (Int.tdiv a0 20))==0)=true:=beq_iff_eq.mpr c5;have c5b1:((wrap64 (Int.tdiv a0 20))!=0)=false:=bne_eq_false_iff_eq.mpr c5;clear c5;obtain rfl:=Option.some.inj H;go_enter Tryz.func86,Tryz.ntmps86
  go_wp2
  go_ret;exact⟨zz1,zz4⟩
 ·rw[if_neg c5]at H;have c5b0:((wrap64 (Int.tdiv a0 20))==0)=false:=beq_eq_false_iff_ne.mpr c5;have c5b1:((wrap64 (Int.tdiv a0 20))!=0)=true:=bne_iff_ne.mpr c5
  by_cases c6:(wrap64 (Int.tdiv a0 20))=2
  ·rw[if_pos c6]at H;have c6b0:((wrap64 (Int.tdiv a0 20))==2)=true:=beq_iff_eq.mpr c6;have c6b1:((wrap64 (Int.tdiv a0 20))!=2)=false:=bne_eq_false_iff_eq.mpr c6;clear c6;obtain rfl:=Option.some.inj H;go_enter Tryz.func86,Tryz.ntmps86
   go_wp2
   go_ret;exact⟨zz1,zz4⟩
  ·rw[if_neg c6]at H;have c6b0:((wrap64 (Int.tdiv a0 20))==2)=false:=beq_eq_false_iff_ne.mpr c6;have c6b1:((wrap64 (Int.tdiv a0 20))!=2)=true:=bne_iff_ne.mpr c6;obtain rfl:=Option.some.inj H;go_enter Tryz.func86,Tryz.ntmps86
   go_wp2
   go_ret;exact⟨zz1,zz4⟩
def spec_l3k.f (a0:Int):Option (Int):=if(wrap64 (Int.tdiv a0 20))=0 then(some 1518500249)else(if(wrap64 (Int.tdiv a0 20))=1 then(some 1859775393)else(if(wrap64 (Int.tdiv a0 20))=2 then(some 2400959708)else(some 3395469782)))
theorem spec_l3k.calls (a0 r:Int) (w:World) (h:spec_l3k.f a0=some r):
  Calls Tryz.prog 87 #[.int .i64 a0] w fun e w'=>e= .returned (.int .i64 r)∧Drawn0 w w':=by
 have H:(if(wrap64 (Int.tdiv a0 20))=0 then(some 1518500249)else(if(wrap64 (Int.tdiv a0 20))=1 then(some 1859775393)else(if(wrap64 (Int.tdiv a0 20))=2 then(some 2400959708)else(some 3395469782))))=some r:=h;clear h
 by_cases c2:(wrap64 (Int.tdiv a0 20))=0
 ·rw[if_pos c2]at H;have c2b0:((wrap64 (Int.tdiv a0 20))==0)=true:=beq_iff_eq.mpr c2;have c2b1:((wrap64 (Int.tdiv a0 20))!=0)=false:=bne_eq_false_iff_eq.mpr c2;clear c2;obtain rfl:=Option.some.inj H;go_enter Tryz.func87,Tryz.ntmps87
  go_wp2
  go_ret;exact⟨zz1,zz4⟩
 ·rw[if_neg c2]at H;have c2b0:((wrap64 (Int.tdiv a0 20))==0)=false:=beq_eq_false_iff_ne.mpr c2;have c2b1:((wrap64 (Int.tdiv a0 20))!=0)=true:=bne_iff_ne.mpr c2
  by_cases c3:(wrap64 (Int.tdiv a0 20))=1
  ·rw[if_pos c3]at H;have c3b0:((wrap64 (Int.tdiv a0 20))==1)=true:=beq_iff_eq.mpr c3;have c3b1:((wrap64 (Int.tdiv a0 20))!=1)=false:=bne_eq_false_iff_eq.mpr c3;clear c3;obtain rfl:=Option.some.inj H;go_enter Tryz.func87,Tryz.ntmps87
   go_wp2
   go_ret;exact⟨zz1,zz4⟩
  ·rw[if_neg c3]at H;have c3b0:((wrap64 (Int.tdiv a0 20))==1)=false:=beq_eq_false_iff_ne.mpr c3;have c3b1:((wrap64 (Int.tdiv a0 20))!=1)=true:=bne_iff_ne.mpr c3
   by_cases c4:(wrap64 (Int.tdiv a0 20))=2
   ·rw[if_pos c4]at H;have c4b0:((wrap64 (Int.tdiv a0 20))==2)=true:=beq_iff_eq.mpr c4;have c4b1:((wrap64 (Int.tdiv a0 20))!=2)=false:=bne_eq_false_iff_eq.mpr c4;clear c4;obtain rfl:=Option.some.inj H;go_enter Tryz.func87,Tryz.ntmps87
    go_wp2
    go_ret;exact⟨zz1,zz4⟩
   ·rw[if_neg c4]at H;have c4b0:((wrap64 (Int.tdiv a0 20))==2)=false:=beq_eq_false_iff_ne.mpr c4;have c4b1:((wrap64 (Int.tdiv a0 20))!=2)=true:=bne_iff_ne.mpr c4;obtain rfl:=Option.some.inj H;go_enter Tryz.func87,Tryz.ntmps87
    go_wp2
    go_ret;exact⟨zz1,zz4⟩
end Go.Proofs.YtgkipkifkobjnaaGreatDoor.GFnExactRecOk
