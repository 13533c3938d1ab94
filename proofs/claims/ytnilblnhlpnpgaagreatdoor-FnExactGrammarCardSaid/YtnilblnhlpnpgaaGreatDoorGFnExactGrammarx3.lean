-- Printed by gen.py and its programs for this claim.
import Derived.Test.YtnilblnhlpnpgaaGreatDoorGFnExactGrammarx0
import Derived.Test.YtnilblnhlpnpgaaGreatDoorGFnExactGrammarx1
import Derived.Test.YtnilblnhlpnpgaaGreatDoorZFnExactGrammar
namespace Go.Proofs.YtnilblnhlpnpgaaGreatDoor.GFnExactGrammar
open Go.RowKit Go.Proofs.YtnilblnhlpnpgaaGreatDoorW.PrintWords Go.Proofs.YtnilblnhlpnpgaaGreatDoorW.PrintLast Go.Proofs.YtnilblnhlpnpgaaGreatDoorW.PrintMore Go.Proofs.YtnilblnhlpnpgaaGreatDoorW.Zs
set_option maxHeartbeats 40000000
set_option maxRecDepth 100000
attribute [local go_sem] max2_int min2_int max_two min_two max_three min_three max_four min_four
set_option linter.unusedVariables false
set_option linter.unusedSimpArgs false
theorem spec_Fold_low (x:Int):spec_l1lower.f x=some (lowI x):=by unfold spec_l1lower.f lowI;split<;>(try split)<;>rfl
def spec_Fold.f (a0:ByteArray):Option (ByteArray):=if a0.size≤1099511627776 then some (strOfNums ((bytesOf a0).map lowI))else none
theorem spec_Fold.calls (a0 r:ByteArray) (w:World) (h:spec_Fold.f a0=some r):
  Calls Tryz.prog 49 #[.string a0] w fun e w'=>e= .returned (.string r)∧Below w.heap.size w w':=by
 have hu24:=Tryz.underlying24;unfold spec_Fold.f at h
 by_cases hlim:a0.size≤1099511627776
 ·rw[if_pos hlim]at h;obtain rfl:=Option.some.inj h;clear h;have HL:=Aside0.mk hlim;clear hlim;have kb:=fun W=>print_bytes (P:=Tryz.prog) 9 24 5 Tryz.underlying9 Tryz.underlying24 Tryz.underlying5 a0 W;go_enter Tryz.func49,Tryz.ntmps49
  go_wp2
  go_loopg [4] (a0.size+1) (fun kq v4 w'=> ∃(x4:Int),v4= .int .i64 x4∧Aside0 (∃j:Nat,x4=(j:Int)∧j≤a0.size∧kq+j=a0.size+1∧BRow w' w.heap.size (lowTo a0 j))∧Aside0 (w.heap.size<w'.heap.size∧Below w.heap.size w w'))
  case atStart=>
   exact⟨0,rfl,⟨0,rfl,by omega,by omega,by rw[lowTo_zero];exact BRow.new _ _ _⟩,⟨by rw[Lib.bytesWorld_size];omega,bytes_below (Below.refl _ _) (Nat.le_refl _) _ _⟩⟩
  case round=>
   obtain⟨x4,rfl,HJ,HB⟩:=hrel;obtain⟨j,hxj,hjl,hkj,hbr⟩:=HJ.out;clear HJ;have HX:=Aside0.mk hxj;have HJL:=Aside0.mk hjl;have HK:=Aside0.mk hkj;have HR:=Aside0.mk hbr;clear hxj hjl hkj hbr
   cases gk with
   |zero=>have:=HK.out;have:=HJL.out;omega
   |succ k1=>
   by_cases hlt:j<a0.size
   ·have c1:decide (x4<(a0.size:Int))=true:=decide_eq_true (by have:=HX.out;omega);have p9:0≤(x4:Int):=by have:=HX.out;omega
    have q9:x4<(a0.size:Int):=of_decide_eq_true c1;have HLT:=Aside0.mk hlt;have hx0:=HR.out.cell x4.toNat zz110;have hfz:=HR.out.frozen x4.toNat zz110;have hbj:(lowTo a0 j).getD x4.toNat 0=(bytesOf a0).getD j 0:=by rw[HX.out,Int.toNat_natCast];exact lowTo_get _ _ hlt
    have hset:=lowTo_set a0 j hlt;rw[hbj]at hx0;generalize (bytesOf a0).getD j 0=b at hx0 hset;have HS:=Aside0.mk hset;clear hlt hset hbj;replace p9:=eq_true p9;replace q9:=eq_true q9;go_wp2_with fail
    refine(spec_l1lower.calls b (lowI b) _ (spec_Fold_low b)).mono ?_;rintro e w2 ⟨rfl,⟨nd,rfl⟩⟩;go_wp2
    go_roundg k1
    case measure=>omega
    case rel=>
     have hx:=HX.out;have hk:=HK.out;have hlt:=HLT.out;have hl:=HL.out;have hxn:x4.toNat=j:=by omega
     refine⟨_,rfl,⟨j+1,by rw[hx];unfold wrap64;omega,by omega,by omega,?_⟩,⟨?_,?_⟩⟩
     ·rw[←HS.out,hxn];exact HR.out.set j _
     ·have:=HB.out.1;simpa using this
     ·exact(HB.out.2.trans (pw_below_drewN (Below.refl _ _) nd)).setCell (Nat.le_refl _) _
   ·have c1:decide (x4<(a0.size:Int))=false:=decide_eq_false (by have:=HX.out;omega);have hj2:j=a0.size:=by have:=HJL.out;omega
    have hst:=HR.out.string (P:=Tryz.prog) (c:=grownCap w a0.size 0 5) (src:=24) (dst:=9) Tryz.underlying24 Tryz.underlying5 Tryz.underlying9 (lowTo_length a0 j HJL.out);rw[hj2,lowTo_all]at hst;go_wp2_with fail
    go_ret;exact⟨rfl,HB.out.2⟩
 ·rw[if_neg hlim]at h;cases h
def spec_l2num.l0:Nat→ByteArray→Int→Int→Option (Int)
 |0,_,_,_=>none
 |k+1,x0,x3,x4=>if x4<(x0.size:Int)then(if 0≤x4 then(if(bt x0 x4)=32 then(spec_l2num.l0 k x0 (wrap64 (x3*10)) (wrap64 (x4+1)))else((spec_l1digit.f (bt x0 x4)).bind fun t114=>(if t114=true then(spec_l2num.l0 k x0 (wrap64 ((wrap64 (x3*10))+(((bt x0 x4)-48)%256))) (wrap64 (x4+1)))else(some (-1)))))else(none))else(some x3)
def spec_l2num.f (k:Nat) (a0:ByteArray):Option (Int):=spec_l2num.l0 k a0 0 0
theorem spec_l2num.calls (k:Nat) (a0:ByteArray) (r:Int) (w:World) (h:spec_l2num.f k a0=some r):
  Calls Tryz.prog 98 #[.string a0] w fun e w'=>e= .returned (.int .i64 r)∧Drawn0 w w':=by
 have H:(spec_l2num.l0 k a0 0 0)=some r:=h;clear h;have H':=Aside0.mk H;clear H;go_enter Tryz.func98,Tryz.ntmps98
 go_wp2
 go_loopg [3,4] k (fun kq v3 v4 w'=> ∃(x3_1 x4_1:Int),v3= .int .i64 x3_1∧v4= .int .i64 x4_1∧Aside0 (spec_l2num.l0 kq a0 x3_1 x4_1=some r)∧Aside0 (kq≤k)∧Drawn0 w w')
 case atStart=>exact⟨(0),(0),zz3,zz3,H',⟨Nat.le_refl _⟩,zz5⟩
 case round=>
  clear H';obtain⟨x3_1,x4_1,rfl,rfl,HA,HK1,⟨m1,rfl⟩⟩:=hrel
  cases gk with
  |zero=>exact absurd HA.out (by simp[spec_l2num.l0])
  |succ k1=>
   have H:=HA.out;clear HA;simp only[spec_l2num.l0]at H
   by_cases c2:x4_1<(a0.size:Int)
   ·rw[if_pos c2]at H;have c2b0:decide (x4_1<(a0.size:Int))=true:=decide_eq_true c2;clear c2
    by_cases c3:0≤x4_1
    ·rw[if_pos c3]at H;have c3b0:decide (0≤x4_1)=true:=decide_eq_true c3;clear c3
     by_cases c5:(bt a0 x4_1)=32
     ·rw[if_pos c5]at H;have c5b0:((bt a0 x4_1)==32)=true:=beq_iff_eq.mpr c5;have c5b1:((bt a0 x4_1)!=32)=false:=bne_eq_false_iff_eq.mpr c5;clear c5;have H':=Aside0.mk H;clear H;have p4:0≤(x4_1:Int):=of_decide_eq_true zz7;have q4:x4_1<(a0.size:Int):=of_decide_eq_true zz7;have hx4:=bt_at a0 x4_1;replace p4:=eq_true p4;replace q4:=eq_true q4;go_wp2
      go_roundg k1
      (case measure=>have:=HK1.out;omega);case rel=>exact⟨(wrap64 (x3_1*10)),(wrap64 (x4_1+1)),zz3,zz3,H',⟨zz72⟩,zz5⟩
     ·rw[if_neg c5]at H;have c5b0:((bt a0 x4_1)==32)=false:=beq_eq_false_iff_ne.mpr c5;have c5b1:((bt a0 x4_1)!=32)=true:=bne_iff_ne.mpr c5;replace H:=Option.bind_eq_some_iff.mp H;obtain⟨t114,A70,H⟩:=H;(try dsimp only at H);have A7:=Aside0.mk A70;clear A70;have HC8:=Aside0.mk H;clear H;have p4:0≤(x4_1:Int):=of_decide_eq_true zz7;have q4:x4_1<(a0.size:Int):=of_decide_eq_true zz7;have hx4:=bt_at a0 x4_1;replace p4:=eq_true p4;replace q4:=eq_true q4;have p6:0≤(x4_1:Int):=of_decide_eq_true zz7;have q6:x4_1<(a0.size:Int):=of_decide_eq_true zz7;have hx6:=bt_at a0 x4_1;replace p6:=eq_true p6;replace q6:=eq_true q6;go_upto_if 21 with(first|((with_reducible refine gate_callee (f:=100) rfl ?_);refine goesR_ 20 Tryz.func100 #[.int .u8 (bt a0 x4_1)] (spec_l1digit.calls (bt a0 x4_1) t114 _ A7.out) ?_;rintro w' ⟨nd,rfl⟩))
      (try simp only[Act.put,List.setIfInBounds_toArray,List.set_cons_zero,List.set_cons_succ]);have H:=HC8.out;clear HC8
      by_cases c9:t114=true
      ·subst c9;rw[if_pos rfl]at H;have H':=Aside0.mk H;clear H;have p10:0≤(x4_1:Int):=of_decide_eq_true zz7;have q10:x4_1<(a0.size:Int):=of_decide_eq_true zz7;have hx10:=bt_at a0 x4_1;replace p10:=eq_true p10;replace q10:=eq_true q10;go_wp2
       go_roundg k1
       (case measure=>have:=HK1.out;omega);case rel=>exact⟨(wrap64 ((wrap64 (x3_1*10))+(((bt a0 x4_1)-48)%256))),(wrap64 (x4_1+1)),zz3,zz3,H',⟨zz72⟩,zz5⟩
      ·replace c9:=Bool.eq_false_iff.mpr c9;subst c9;rw[if_neg Bool.false_ne_true]at H;obtain rfl:=Option.some.inj H;go_wp2
       go_ret;exact⟨zz3,zz5⟩
    ·rw[if_neg c3]at H;exact absurd H (by simp)
   ·rw[if_neg c2]at H;have c2b0:decide (x4_1<(a0.size:Int))=false:=decide_eq_false c2;clear c2;obtain rfl:=Option.some.inj H;go_wp2
    go_ret;exact⟨zz3,zz5⟩
def spec_l2leap.f (a0:Int):Option (Bool):=if(Int.tmod a0 4)=0 then(if(Int.tmod a0 100)=0 then(some ((Int.tmod a0 400)==0))else(some true))else(some false)
theorem spec_l2leap.calls (a0:Int) (r:Bool) (w:World) (h:spec_l2leap.f a0=some r):
  Calls Tryz.prog 179 #[.int .i64 a0] w fun e w'=>e= .returned (.bool r)∧Drawn0 w w':=by
 have H:(if(Int.tmod a0 4)=0 then(if(Int.tmod a0 100)=0 then(some ((Int.tmod a0 400)==0))else(some true))else(some false))=some r:=h;clear h
 by_cases c2:(Int.tmod a0 4)=0
 ·rw[if_pos c2]at H;have c2b0:((Int.tmod a0 4)==0)=true:=beq_iff_eq.mpr c2;have c2b1:((Int.tmod a0 4)!=0)=false:=bne_eq_false_iff_eq.mpr c2;clear c2
  by_cases c3:(Int.tmod a0 100)=0
  ·rw[if_pos c3]at H;have c3b0:((Int.tmod a0 100)==0)=true:=beq_iff_eq.mpr c3;have c3b1:((Int.tmod a0 100)!=0)=false:=bne_eq_false_iff_eq.mpr c3;clear c3;obtain rfl:=Option.some.inj H;go_enter Tryz.func179,Tryz.ntmps179
   go_wp2
   go_ret;exact⟨zz3,zz5⟩
  ·rw[if_neg c3]at H;have c3b0:((Int.tmod a0 100)==0)=false:=beq_eq_false_iff_ne.mpr c3;have c3b1:((Int.tmod a0 100)!=0)=true:=bne_iff_ne.mpr c3;obtain rfl:=Option.some.inj H;go_enter Tryz.func179,Tryz.ntmps179
   go_wp2
   go_ret;exact⟨zz3,zz5⟩
 ·rw[if_neg c2]at H;have c2b0:((Int.tmod a0 4)==0)=false:=beq_eq_false_iff_ne.mpr c2;have c2b1:((Int.tmod a0 4)!=0)=true:=bne_iff_ne.mpr c2;obtain rfl:=Option.some.inj H;go_enter Tryz.func179,Tryz.ntmps179
  go_wp2
  go_ret;exact⟨zz3,zz5⟩
def spec_l2days.f (a0 a1:Int):Option (Int):=if a1=2 then((spec_l2leap.f a0).bind fun t115=>(if t115=true then(some 29)else(some 28)))else(if a1=4 then(some 30)else(if a1=6 then(some 30)else(if a1=9 then(some 30)else(if a1=11 then(some 30)else(some 31)))))
theorem spec_l2days.calls (a0 a1 r:Int) (w:World) (h:spec_l2days.f a0 a1=some r):
  Calls Tryz.prog 155 #[.int .i64 a0,.int .i64 a1] w fun e w'=>e= .returned (.int .i64 r)∧Drawn0 w w':=by
 have H:(if a1=2 then((spec_l2leap.f a0).bind fun t115=>(if t115=true then(some 29)else(some 28)))else(if a1=4 then(some 30)else(if a1=6 then(some 30)else(if a1=9 then(some 30)else(if a1=11 then(some 30)else(some 31))))))=some r:=h;clear h
 by_cases c3:a1=2
 ·rw[if_pos c3]at H;have c3b0:(a1==2)=true:=beq_iff_eq.mpr c3;have c3b1:(a1 !=2)=false:=bne_eq_false_iff_eq.mpr c3;clear c3;replace H:=Option.bind_eq_some_iff.mp H;obtain⟨t115,A40,H⟩:=H;(try dsimp only at H);have A4:=Aside0.mk A40;clear A40;have HC5:=Aside0.mk H;clear H;go_enter Tryz.func155,Tryz.ntmps155
  go_upto_if 8 with(first|((with_reducible refine gate_callee (f:=179) rfl ?_);refine goesR_ 8 Tryz.func179 #[.int .i64 a0] (spec_l2leap.calls a0 t115 _ A4.out) ?_;rintro w' ⟨nd,rfl⟩))
  (try simp only[Act.put,List.setIfInBounds_toArray,List.set_cons_zero,List.set_cons_succ]);have H:=HC5.out;clear HC5
  by_cases c6:t115=true
  ·subst c6;rw[if_pos rfl]at H;obtain rfl:=Option.some.inj H;go_wp2
   go_ret;exact⟨zz3,zz5⟩
  ·replace c6:=Bool.eq_false_iff.mpr c6;subst c6;rw[if_neg Bool.false_ne_true]at H;obtain rfl:=Option.some.inj H;go_wp2
   go_ret;exact⟨zz3,zz5⟩
 ·rw[if_neg c3]at H;have c3b0:(a1==2)=false:=beq_eq_false_iff_ne.mpr c3;have c3b1:(a1 !=2)=true:=bne_iff_ne.mpr c3
  by_cases c7:a1=4
  ·rw[if_pos c7]at H;have c7b0:(a1==4)=true:=beq_iff_eq.mpr c7;have c7b1:(a1 !=4)=false:=bne_eq_false_iff_eq.mpr c7;clear c7;obtain rfl:=Option.some.inj H;go_enter Tryz.func155,Tryz.ntmps155
   go_wp2
   go_ret;exact⟨zz3,zz5⟩
  ·rw[if_neg c7]at H;have c7b0:(a1==4)=false:=beq_eq_false_iff_ne.mpr c7;have c7b1:(a1 !=4)=true:=bne_iff_ne.mpr c7
   by_cases c8:a1=6
   ·rw[if_pos c8]at H;have c8b0:(a1==6)=true:=beq_iff_eq.mpr c8;have c8b1:(a1 !=6)=false:=bne_eq_false_iff_eq.mpr c8;clear c8;obtain rfl:=Option.some.inj H;go_enter Tryz.func155,Tryz.ntmps155
    go_wp2
    go_ret;exact⟨zz3,zz5⟩
   ·rw[if_neg c8]at H;have c8b0:(a1==6)=false:=beq_eq_false_iff_ne.mpr c8;have c8b1:(a1 !=6)=true:=bne_iff_ne.mpr c8
    by_cases c9:a1=9
    ·rw[if_pos c9]at H;have c9b0:(a1==9)=true:=beq_iff_eq.mpr c9;have c9b1:(a1 !=9)=false:=bne_eq_false_iff_eq.mpr c9;clear c9;obtain rfl:=Option.some.inj H;go_enter Tryz.func155,Tryz.ntmps155
     go_wp2
     go_ret;exact⟨zz3,zz5⟩
    ·rw[if_neg c9]at H;have c9b0:(a1==9)=false:=beq_eq_false_iff_ne.mpr c9;have c9b1:(a1 !=9)=true:=bne_iff_ne.mpr c9
     by_cases c10:a1=11
     ·rw[if_pos c10]at H;have c10b0:(a1==11)=true:=beq_iff_eq.mpr c10;have c10b1:(a1 !=11)=false:=bne_eq_false_iff_eq.mpr c10;clear c10;obtain rfl:=Option.some.inj H;go_enter Tryz.func155,Tryz.ntmps155
      go_wp2
      go_ret;exact⟨zz3,zz5⟩
     ·rw[if_neg c10]at H;have c10b0:(a1==11)=false:=beq_eq_false_iff_ne.mpr c10;have c10b1:(a1 !=11)=true:=bne_iff_ne.mpr c10;obtain rfl:=Option.some.inj H;go_enter Tryz.func155,Tryz.ntmps155
      go_wp2
      go_ret;exact⟨zz3,zz5⟩
end Go.Proofs.YtnilblnhlpnpgaaGreatDoor.GFnExactGrammar
