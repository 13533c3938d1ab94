-- Printed by gen.py and its programs for this claim.
import Derived.Test.YtgkipkifkobjnaaGreatDoorGFnExactRecOkx0
import Derived.Test.YtgkipkifkobjnaaGreatDoorZFnExactRecOk
namespace Go.Proofs.YtgkipkifkobjnaaGreatDoor.GFnExactRecOk
open Go.RowKit Go.Proofs.YtgkipkifkobjnaaGreatDoorW.PrintWords Go.Proofs.YtgkipkifkobjnaaGreatDoorW.PrintLast Go.Proofs.YtgkipkifkobjnaaGreatDoorW.PrintMore Go.Proofs.YtgkipkifkobjnaaGreatDoorW.Zs
set_option maxHeartbeats 40000000
set_option maxRecDepth 100000
attribute [local go_sem] max2_int min2_int max_two min_two max_three min_three max_four min_four
set_option linter.unusedVariables false
set_option linter.unusedSimpArgs false
def laws_szRec.f (a0_0 a0_1 a0_2:Int) (a0_3:ByteArray) (a0_4:Int) (a0_5 a0_6:ByteArray) (a1:Int):Option (Int):=if(wrap64 (a1-(a0_3.size:Int)))<0 then(some (-1))else(if(wrap64 ((wrap64 (a1-(a0_3.size:Int)))-(a0_5.size:Int)))<0 then(some (-1))else(if(wrap64 ((wrap64 ((wrap64 (a1-(a0_3.size:Int)))-(a0_5.size:Int)))-(a0_6.size:Int)))<0 then(some (-1))else(some (wrap64 ((wrap64 ((wrap64 (a1-(a0_3.size:Int)))-(a0_5.size:Int)))-(a0_6.size:Int))))))
theorem laws_szRec.calls (a0_0 a0_1 a0_2:Int) (a0_3:ByteArray) (a0_4:Int) (a0_5 a0_6:ByteArray) (a1 r:Int) (w:World) (h:laws_szRec.f a0_0 a0_1 a0_2 a0_3 a0_4 a0_5 a0_6 a1=some r):
  Calls Tryz.prog 4 #[.agg #[.int .i64 a0_0,.int .i64 a0_1,.int .i64 a0_2,.string a0_3,.int .i64 a0_4,.string a0_5,.string a0_6],.int .i64 a1] w fun e w'=>e= .returned (.int .i64 r)∧Below w.heap.size w w':=by
 have hu23:=Tryz.underlying23;have HB:=Aside0.mk (Below.refl w.heap.size w);have H:(if(wrap64 (a1-(a0_3.size:Int)))<0 then(some (-1))else(if(wrap64 ((wrap64 (a1-(a0_3.size:Int)))-(a0_5.size:Int)))<0 then(some (-1))else(if(wrap64 ((wrap64 ((wrap64 (a1-(a0_3.size:Int)))-(a0_5.size:Int)))-(a0_6.size:Int)))<0 then(some (-1))else(some (wrap64 ((wrap64 ((wrap64 (a1-(a0_3.size:Int)))-(a0_5.size:Int)))-(a0_6.size:Int)))))))=some r:=h;clear h;have HC3:=Aside0.mk H;clear H;go_enter Tryz.func4,Tryz.ntmps4
 go_upto_if 11 with(first|((with_reducible refine gate_dst (N:=2) rfl ?_);refine boxP_ (N:=2) (cs:= #[.int .i64 a0_0,.int .i64 a0_1,.int .i64 a0_2,.string a0_3,.int .i64 a0_4,.string a0_5,.string a0_6]) (t:=23) ?_;intro gb101 hg w4 hbox hb;have BK101:=Aside0.mk (hbox);have GE101:=geb_ (w:=w) hg zz0;replace HB:=Aside0.mk (below_step zz0 hb);clear hb hbox hg;obtain⟨_,_,_,_,_,_,_,_,_,_,_,_,_,_⟩:=cells7_ BK101.out))
 (try simp only[Act.put,List.setIfInBounds_toArray,List.set_cons_zero,List.set_cons_succ]);have H:=HC3.out;clear HC3
 by_cases c6:(wrap64 (a1-(a0_3.size:Int)))<0
 ·rw[if_pos c6]at H;have c6b0:decide ((wrap64 (a1-(a0_3.size:Int)))<0)=true:=decide_eq_true c6;clear c6;(first|rw[c6b0]|(simp only[i64_w,i32_w];rw[c6b0])|skip);obtain rfl:=Option.some.inj H;go_wp2
  go_ret;exact⟨zz2,zz58⟩
 ·rw[if_neg c6]at H;have c6b0:decide ((wrap64 (a1-(a0_3.size:Int)))<0)=false:=decide_eq_false c6;clear c6;(first|rw[c6b0]|(simp only[i64_w,i32_w];rw[c6b0])|skip)
  by_cases c7:(wrap64 ((wrap64 (a1-(a0_3.size:Int)))-(a0_5.size:Int)))<0
  ·rw[if_pos c7]at H;have c7b0:decide ((wrap64 ((wrap64 (a1-(a0_3.size:Int)))-(a0_5.size:Int)))<0)=true:=decide_eq_true c7;clear c7;obtain rfl:=Option.some.inj H;obtain⟨_,_,_,_,_,_,_,_,_,_,_,_,_,_⟩:=cells7_ BK101.out;go_wp2
   go_ret;exact⟨zz2,zz58⟩
  ·rw[if_neg c7]at H;have c7b0:decide ((wrap64 ((wrap64 (a1-(a0_3.size:Int)))-(a0_5.size:Int)))<0)=false:=decide_eq_false c7;clear c7
   by_cases c9:(wrap64 ((wrap64 ((wrap64 (a1-(a0_3.size:Int)))-(a0_5.size:Int)))-(a0_6.size:Int)))<0
   ·rw[if_pos c9]at H;have c9b0:decide ((wrap64 ((wrap64 ((wrap64 (a1-(a0_3.size:Int)))-(a0_5.size:Int)))-(a0_6.size:Int)))<0)=true:=decide_eq_true c9;clear c9;obtain rfl:=Option.some.inj H;obtain⟨_,_,_,_,_,_,_,_,_,_,_,_,_,_⟩:=cells7_ BK101.out;go_wp2
    go_ret;exact⟨zz2,zz58⟩
   ·rw[if_neg c9]at H;have c9b0:decide ((wrap64 ((wrap64 ((wrap64 (a1-(a0_3.size:Int)))-(a0_5.size:Int)))-(a0_6.size:Int)))<0)=false:=decide_eq_false c9;clear c9;obtain rfl:=Option.some.inj H;obtain⟨_,_,_,_,_,_,_,_,_,_,_,_,_,_⟩:=cells7_ BK101.out;go_wp2
    go_ret;exact⟨zz2,zz58⟩
def spec_l2time.f (a0:Int):Option (Bool):=if a0≥0 then(some (decide (a0≤253402300799)))else(some false)
theorem spec_l2time.calls (a0:Int) (r:Bool) (w:World) (h:spec_l2time.f a0=some r):
  Calls Tryz.prog 8 #[.int .i64 a0] w fun e w'=>e= .returned (.bool r)∧Drawn0 w w':=by
 have H:(if a0≥0 then(some (decide (a0≤253402300799)))else(some false))=some r:=h;clear h
 by_cases c2:a0≥0
 ·rw[if_pos c2]at H;have c2b0:decide (0≤a0)=true:=decide_eq_true c2;clear c2;obtain rfl:=Option.some.inj H;go_enter Tryz.func8,Tryz.ntmps8
  go_wp2
  go_ret;exact⟨zz1,zz4⟩
 ·rw[if_neg c2]at H;have c2b0:decide (0≤a0)=false:=decide_eq_false c2;clear c2;obtain rfl:=Option.some.inj H;go_enter Tryz.func8,Tryz.ntmps8
  go_wp2
  go_ret;exact⟨zz1,zz4⟩
def spec_l6visible.l0:Nat→ByteArray→Int→Option (Bool)
 |0,_,_=>none
 |k+1,x0,x3=>if x3<(x0.size:Int)then(if 0≤x3 then(if(bt x0 x3)<33 then(some false)else(if(bt x0 x3)>126 then(some false)else(spec_l6visible.l0 k x0 (wrap64 (x3+1)))))else(none))else(some (decide ((x0.size:Int)>0)))
def spec_l6visible.f (k:Nat) (a0:ByteArray):Option (Bool):=spec_l6visible.l0 k a0 0
theorem spec_l6visible.calls (k:Nat) (a0:ByteArray) (r:Bool) (w:World) (h:spec_l6visible.f k a0=some r):
  Calls Tryz.prog 46 #[.string a0] w fun e w'=>e= .returned (.bool r)∧Drawn0 w w':=by
 have H:(spec_l6visible.l0 k a0 0)=some r:=h;clear h;have H':=Aside0.mk H;clear H;go_enter Tryz.func46,Tryz.ntmps46
 go_wp2
 go_loopg [3] k (fun kq v3 w'=> ∃(x3_1:Int),v3= .int .i64 x3_1∧Aside0 (spec_l6visible.l0 kq a0 x3_1=some r)∧Aside0 (kq≤k)∧Drawn0 w w')
 case atStart=>exact⟨(0),zz1,H',⟨Nat.le_refl _⟩,zz4⟩
 case round=>
  clear H';obtain⟨x3_1,rfl,HA,HK1,⟨m1,rfl⟩⟩:=hrel
  cases gk with
  |zero=>exact absurd HA.out (by simp[spec_l6visible.l0])
  |succ k1=>
   have H:=HA.out;clear HA;simp only[spec_l6visible.l0]at H
   by_cases c2:x3_1<(a0.size:Int)
   ·rw[if_pos c2]at H;have c2b0:decide (x3_1<(a0.size:Int))=true:=decide_eq_true c2;clear c2
    by_cases c3:0≤x3_1
    ·rw[if_pos c3]at H;have c3b0:decide (0≤x3_1)=true:=decide_eq_true c3;clear c3;have HC5:=Aside0.mk H;clear H;have p4:0≤(x3_1:Int):=of_decide_eq_true zz3;have q4:x3_1<(a0.size:Int):=of_decide_eq_true zz3;have hx4:=bt_at a0 x3_1;replace p4:=eq_true p4;replace q4:=eq_true q4
     repeat' (first|(go_big_may;(fail))|go_values|go_skip|go_big_skip|go_big_want|((first|(with_reducible refine gate_nog rfl ?_)|(fail_if_success with_reducible refine gate_any ?_));go_step)|go_upon|simp only[Bool.not_true,Bool.not_false,Bool.true_and,Bool.false_and,Bool.true_or,Bool.false_or]|dsimp only)
     have H:=HC5.out;clear HC5
     by_cases c6:(bt a0 x3_1)<33
     ·rw[if_pos c6]at H;have c6b0:decide ((bt a0 x3_1)<33)=true:=decide_eq_true c6;clear c6;(first|rw[c6b0]|(simp only[i64_w,i32_w];rw[c6b0])|skip);obtain rfl:=Option.some.inj H;go_wp2
      go_ret;exact⟨zz1,zz4⟩
     ·rw[if_neg c6]at H;have c6b0:decide ((bt a0 x3_1)<33)=false:=decide_eq_false c6;clear c6;(first|rw[c6b0]|(simp only[i64_w,i32_w];rw[c6b0])|skip)
      by_cases c8:(bt a0 x3_1)>126
      ·rw[if_pos c8]at H;have c8b0:decide (126<(bt a0 x3_1))=true:=decide_eq_true c8;clear c8;obtain rfl:=Option.some.inj H;have p7:0≤(x3_1:Int):=of_decide_eq_true zz3;have q7:x3_1<(a0.size:Int):=of_decide_eq_true zz3;have hx7:=bt_at a0 x3_1;replace p7:=eq_true p7;replace q7:=eq_true q7;go_wp2
       go_ret;exact⟨zz1,zz4⟩
      ·rw[if_neg c8]at H;have c8b0:decide (126<(bt a0 x3_1))=false:=decide_eq_false c8;clear c8;have H':=Aside0.mk H;clear H;have p7:0≤(x3_1:Int):=of_decide_eq_true zz3;have q7:x3_1<(a0.size:Int):=of_decide_eq_true zz3;have hx7:=bt_at a0 x3_1;replace p7:=eq_true p7;replace q7:=eq_true q7;go_wp2
       go_roundg k1
       (case measure=>have:=HK1.out;omega);case rel=>exact⟨(wrap64 (x3_1+1)),zz1,H',⟨zz60⟩,zz4⟩
    ·rw[if_neg c3]at H;exact absurd H (by simp)
   ·rw[if_neg c2]at H;have c2b0:decide (x3_1<(a0.size:Int))=false:=decide_eq_false c2;clear c2;obtain rfl:=Option.some.inj H;go_wp2
    go_ret;exact⟨zz1,zz4⟩
def spec_l6upto.l0:Nat→ByteArray→Int→Int→Option (ByteArray)
 |0,_,_,_=>none
 |k+1,x0,x1,x5=>if x5<(x0.size:Int)then(if 0≤x5 then(if(bt x0 x5)=x1 then(if x5≤(x0.size:Int)then(some (x0.extract 0 (x5:Int).toNat))else(none))else(spec_l6upto.l0 k x0 x1 (wrap64 (x5+1))))else(none))else(some x0)
def spec_l6upto.f (k:Nat) (a0:ByteArray) (a1:Int):Option (ByteArray):=spec_l6upto.l0 k a0 a1 0
theorem spec_l6upto.calls (k:Nat) (a0:ByteArray) (a1:Int) (r:ByteArray) (w:World) (h:spec_l6upto.f k a0 a1=some r):
  Calls Tryz.prog 47 #[.string a0,.int .u8 a1] w fun e w'=>e= .returned (.string r)∧Drawn0 w w':=by
 have H:(spec_l6upto.l0 k a0 a1 0)=some r:=h;clear h;have H':=Aside0.mk H;clear H;go_enter Tryz.func47,Tryz.ntmps47
 go_wp2
 go_loopg [5] k (fun kq v5 w'=> ∃(x5_1:Int),v5= .int .i64 x5_1∧Aside0 (spec_l6upto.l0 kq a0 a1 x5_1=some r)∧Aside0 (kq≤k)∧Drawn0 w w')
 case atStart=>exact⟨(0),zz1,H',⟨Nat.le_refl _⟩,zz4⟩
 case round=>
  clear H';(try clear p2);obtain⟨x5_1,rfl,HA,HK1,⟨m1,rfl⟩⟩:=hrel
  cases gk with
  |zero=>exact absurd HA.out (by simp[spec_l6upto.l0])
  |succ k1=>
   have H:=HA.out;clear HA;simp only[spec_l6upto.l0]at H
   by_cases c3:x5_1<(a0.size:Int)
   ·rw[if_pos c3]at H;have c3b0:decide (x5_1<(a0.size:Int))=true:=decide_eq_true c3;clear c3
    by_cases c4:0≤x5_1
    ·rw[if_pos c4]at H;have c4b0:decide (0≤x5_1)=true:=decide_eq_true c4;clear c4
     by_cases c6:(bt a0 x5_1)=a1
     ·rw[if_pos c6]at H;have c6b0:((bt a0 x5_1)==a1)=true:=beq_iff_eq.mpr c6;have c6b1:((bt a0 x5_1)!=a1)=false:=bne_eq_false_iff_eq.mpr c6;clear c6;have c7b0:=eq_true (of_decide_eq_true zz3:0≤x5_1)
      by_cases c8:x5_1≤(a0.size:Int)
      ·rw[if_pos c8]at H;have c8b0:=eq_true c8;have c8b1:decide (x5_1≤(a0.size:Int))=true:=decide_eq_true c8;clear c8;obtain rfl:=Option.some.inj H;have p5:0≤(x5_1:Int):=of_decide_eq_true zz3;have q5:x5_1<(a0.size:Int):=of_decide_eq_true zz3;have hx5:=bt_at a0 x5_1;replace p5:=eq_true p5;replace q5:=eq_true q5;go_wp2
       go_ret;exact⟨zz1,zz4⟩
      ·rw[if_neg c8]at H;exact absurd H (by simp)
     ·rw[if_neg c6]at H;have c6b0:((bt a0 x5_1)==a1)=false:=beq_eq_false_iff_ne.mpr c6;have c6b1:((bt a0 x5_1)!=a1)=true:=bne_iff_ne.mpr c6;have H':=Aside0.mk H;clear H;have p5:0≤(x5_1:Int):=of_decide_eq_true zz3;have q5:x5_1<(a0.size:Int):=of_decide_eq_true zz3;have hx5:=bt_at a0 x5_1;replace p5:=eq_true p5;replace q5:=eq_true q5;go_wp2
      go_roundg k1
      (case measure=>have:=HK1.out;omega);case rel=>exact⟨(wrap64 (x5_1+1)),zz1,H',⟨zz60⟩,zz4⟩
    ·rw[if_neg c4]at H;exact absurd H (by simp)
   ·rw[if_neg c3]at H;have c3b0:decide (x5_1<(a0.size:Int))=false:=decide_eq_false c3;clear c3;obtain rfl:=Option.some.inj H;go_wp2
    go_ret;exact⟨zz1,zz4⟩
def spec_l1lower.f (a0:Int):Option (Int):=if a0≥65 then(if a0≤90 then(some ((a0+32)%256))else(some a0))else(some a0)
theorem spec_l1lower.calls (a0 r:Int) (w:World) (h:spec_l1lower.f a0=some r):
  Calls Tryz.prog 75 #[.int .u8 a0] w fun e w'=>e= .returned (.int .u8 r)∧Drawn0 w w':=by
 have H:(if a0≥65 then(if a0≤90 then(some ((a0+32)%256))else(some a0))else(some a0))=some r:=h;clear h
 by_cases c2:a0≥65
 ·rw[if_pos c2]at H;have c2b0:decide (65≤a0)=true:=decide_eq_true c2;clear c2
  by_cases c3:a0≤90
  ·rw[if_pos c3]at H;have c3b0:decide (a0≤90)=true:=decide_eq_true c3;clear c3;obtain rfl:=Option.some.inj H;go_enter Tryz.func75,Tryz.ntmps75
   go_wp2
   go_ret;exact⟨zz1,zz4⟩
  ·rw[if_neg c3]at H;have c3b0:decide (a0≤90)=false:=decide_eq_false c3;clear c3;obtain rfl:=Option.some.inj H;go_enter Tryz.func75,Tryz.ntmps75
   go_wp2
   go_ret;exact⟨zz1,zz4⟩
 ·rw[if_neg c2]at H;have c2b0:decide (65≤a0)=false:=decide_eq_false c2;clear c2;obtain rfl:=Option.some.inj H;go_enter Tryz.func75,Tryz.ntmps75
  go_wp2
  go_ret;exact⟨zz1,zz4⟩
theorem spec_Fold_low (x:Int):spec_l1lower.f x=some (lowI x):=by unfold spec_l1lower.f lowI;split<;>(try split)<;>rfl
def spec_Fold.f (a0:ByteArray):Option (ByteArray):=if a0.size≤1099511627776 then some (strOfNums ((bytesOf a0).map lowI))else none
theorem spec_Fold.calls (a0 r:ByteArray) (w:World) (h:spec_Fold.f a0=some r):
  Calls Tryz.prog 48 #[.string a0] w fun e w'=>e= .returned (.string r)∧Below w.heap.size w w':=by
 have hu45:=Tryz.underlying45;unfold spec_Fold.f at h
 by_cases hlim:a0.size≤1099511627776
 ·rw[if_pos hlim]at h;obtain rfl:=Option.some.inj h;clear h;have HL:=Aside0.mk hlim;clear hlim;have kb:=fun W=>print_bytes (P:=Tryz.prog) 9 45 5 Tryz.underlying9 Tryz.underlying45 Tryz.underlying5 a0 W;go_enter Tryz.func48,Tryz.ntmps48
  go_wp2
  go_loopg [4] (a0.size+1) (fun kq v4 w'=> ∃(x4:Int),v4= .int .i64 x4∧Aside0 (∃j:Nat,x4=(j:Int)∧j≤a0.size∧kq+j=a0.size+1∧BRow w' w.heap.size (lowTo a0 j))∧Aside0 (w.heap.size<w'.heap.size∧Below w.heap.size w w'))
  case atStart=>
   exact⟨0,rfl,⟨0,rfl,by omega,by omega,by rw[lowTo_zero];exact BRow.new _ _ _⟩,⟨by rw[Lib.bytesWorld_size];omega,bytes_below (Below.refl _ _) (Nat.le_refl _) _ _⟩⟩
  case round=>
   obtain⟨x4,rfl,HJ,HB⟩:=hrel;obtain⟨j,hxj,hjl,hkj,hbr⟩:=HJ.out;clear HJ;have HX:=Aside0.mk hxj;have HJL:=Aside0.mk hjl;have HK:=Aside0.mk hkj;have HR:=Aside0.mk hbr;clear hxj hjl hkj hbr
   cases gk with
   |zero=>have:=HK.out;have:=HJL.out;omega
   |succ k1=>
   by_cases hlt:j<a0.size
   ·have c1:decide (x4<(a0.size:Int))=true:=decide_eq_true (by have:=HX.out;omega);have p9:0≤(x4:Int):=by have:=HX.out;omega
    have q9:x4<(a0.size:Int):=of_decide_eq_true c1;have HLT:=Aside0.mk hlt;have hx0:=HR.out.cell x4.toNat zz102;have hfz:=HR.out.frozen x4.toNat zz102;have hbj:(lowTo a0 j).getD x4.toNat 0=(bytesOf a0).getD j 0:=by rw[HX.out,Int.toNat_natCast];exact lowTo_get _ _ hlt
    have hset:=lowTo_set a0 j hlt;rw[hbj]at hx0;generalize (bytesOf a0).getD j 0=b at hx0 hset;have HS:=Aside0.mk hset;clear hlt hset hbj;replace p9:=eq_true p9;replace q9:=eq_true q9;go_wp2_with fail
    refine(spec_l1lower.calls b (lowI b) _ (spec_Fold_low b)).mono ?_;rintro e w2 ⟨rfl,⟨nd,rfl⟩⟩;go_wp2
    go_roundg k1
    case measure=>omega
    case rel=>
     have hx:=HX.out;have hk:=HK.out;have hlt:=HLT.out;have hl:=HL.out;have hxn:x4.toNat=j:=by omega
     refine⟨_,rfl,⟨j+1,by rw[hx];unfold wrap64;omega,by omega,by omega,?_⟩,⟨?_,?_⟩⟩
     ·rw[←HS.out,hxn];exact HR.out.set j _
     ·have:=HB.out.1;simpa using this
     ·exact(HB.out.2.trans (pw_below_drewN (Below.refl _ _) nd)).setCell (Nat.le_refl _) _
   ·have c1:decide (x4<(a0.size:Int))=false:=decide_eq_false (by have:=HX.out;omega);have hj2:j=a0.size:=by have:=HJL.out;omega
    have hst:=HR.out.string (P:=Tryz.prog) (c:=grownCap w a0.size 0 5) (src:=45) (dst:=9) Tryz.underlying45 Tryz.underlying5 Tryz.underlying9 (lowTo_length a0 j HJL.out);rw[hj2,lowTo_all]at hst;go_wp2_with fail
    go_ret;exact⟨rfl,HB.out.2⟩
 ·rw[if_neg hlim]at h;cases h
def spec_l1digit.f (a0:Int):Option (Bool):=if a0≥48 then(some (decide (a0≤57)))else(some false)
theorem spec_l1digit.calls (a0:Int) (r:Bool) (w:World) (h:spec_l1digit.f a0=some r):
  Calls Tryz.prog 76 #[.int .u8 a0] w fun e w'=>e= .returned (.bool r)∧Drawn0 w w':=by
 have H:(if a0≥48 then(some (decide (a0≤57)))else(some false))=some r:=h;clear h
 by_cases c2:a0≥48
 ·rw[if_pos c2]at H;have c2b0:decide (48≤a0)=true:=decide_eq_true c2;clear c2;obtain rfl:=Option.some.inj H;go_enter Tryz.func76,Tryz.ntmps76
  go_wp2
  go_ret;exact⟨zz1,zz4⟩
 ·rw[if_neg c2]at H;have c2b0:decide (48≤a0)=false:=decide_eq_false c2;clear c2;obtain rfl:=Option.some.inj H;go_enter Tryz.func76,Tryz.ntmps76
  go_wp2
  go_ret;exact⟨zz1,zz4⟩
mutual
def spec_DecText.j0:Nat→Int→Bool→Option (ByteArray)
 |0,_,_=>none
 |k+1,x0,x8=>if x8=true then(some (⟨#[]⟩:ByteArray))else(if x0<10 then(some (strOfNums (([(wrap64 (48+x0))%256]:List Int))))else((spec_DecText.f k (wrap64 (Int.tdiv x0 10))).bind fun t105=>((some (([(wrap64 (48+(Int.tmod x0 10)))%256]:List Int):List Int)).bind fun y106=>(if t105.size+(strOfNums y106).size≤9223372036854775807 then(some (t105++(strOfNums y106)))else(none)))))
def spec_DecText.f:Nat→Int→Option (ByteArray)
 |0,_=>none
 |k+1,a0=>if a0<0 then(spec_DecText.j0 k a0 true)else(spec_DecText.j0 k a0 (decide (a0>999999999999999)))
end
def spec_DecText.T5:Bool×List (List Nat×List Nat):=(true,[([],[]),([0],[0]),([1],[1]),([],[]),([3],[3]),([4],[4]),([5],[5]),([6],[6]),([7],[7]),([2,8],[2,8]),([9,2,0,1,2,3,4,5,6,7,8,9],[9])])
def spec_DecText.B5:List Nat:= [0,1,3,0,8,24,56,120,248,511,1023]
theorem spec_DecText.tab5:rtab .any (opsOf Tryz.f77 5)=spec_DecText.T5:=by kernel_rfl
theorem spec_DecText.bits5:waitsOk spec_DecText.T5.2 spec_DecText.B5=true:=by kernel_rfl
theorem spec_DecText.calls (k:Nat): ∀(a0:Int) (r:ByteArray) (w:World) (h:spec_DecText.f k a0=some r),
  Calls Tryz.prog 77 #[.int .i64 a0] w fun e w'=>e= .returned (.string r)∧Below w.heap.size w w':=by
 induction k using Nat.strongRecOn with
 |_ k ih=>
 intro a0 r w h
 cases k with
 |zero=>exact absurd h (by simp[spec_DecText.f])
 |succ k=>
 simp only[spec_DecText.f]at h;have HB:=Aside0.mk (Below.refl w.heap.size w);have H:(if a0<0 then(spec_DecText.j0 k a0 true)else(spec_DecText.j0 k a0 (decide (a0>999999999999999))))=some r:=h;clear h;have HC2:=Aside0.mk H;clear H;go_enter Tryz.func77,Tryz.ntmps77
 go_upto_region 1 with(fail)
 go_cut [8] (fun v8 wc=> ∃(kq:Nat) (x8_1:Bool),v8= .bool x8_1∧Aside0 (spec_DecText.j0 kq a0 x8_1=some r)∧Aside0 (kq≤k)∧Aside0 (Below w.heap.size w wc))
 case first=>
  have H:=HC2.out;clear HC2
  by_cases c3:a0<0
  ·rw[if_pos c3]at H;have c3b0:decide (a0<0)=true:=decide_eq_true c3;clear c3;(first|rw[c3b0]|(simp only[i64_w,i32_w];rw[c3b0])|skip);have H':=Aside0.mk H;clear H;go_wp2
   go_meet
   case rel=>exact⟨_,(true),zz1,H',⟨zz23⟩,⟨zz0⟩⟩
  ·rw[if_neg c3]at H;have c3b0:decide (a0<0)=false:=decide_eq_false c3;clear c3;(first|rw[c3b0]|(simp only[i64_w,i32_w];rw[c3b0])|skip);have H':=Aside0.mk H;clear H;go_wp2
   go_meet
   case rel=>exact⟨_,(decide (a0>999999999999999)),zz1,H',⟨zz23⟩,⟨zz0⟩⟩
 case rest=>as_aux_lemma=>
  clear HC2;(try clear p2);(try clear c3);(try clear c3b0);obtain⟨kq,x8_1,rfl,HA,HJ1,HB⟩:=hcut
  cases kq with
  |zero=>exact absurd HA.out (by simp[spec_DecText.j0])
  |succ kj1=>
   have H:=HA.out;clear HA;simp only[spec_DecText.j0]at H
   by_cases c4:x8_1=true
   ·subst c4;rw[if_pos rfl]at H;obtain rfl:=Option.some.inj H;go_wp2
    go_ret;exact⟨zz2,zz0⟩
   ·as_aux_lemma=>
    replace c4:=Bool.eq_false_iff.mpr c4;subst c4;rw[if_neg Bool.false_ne_true]at H
    by_cases c5:a0<10
    ·rw[if_pos c5]at H;have c5b0:decide (a0<10)=true:=decide_eq_true c5;clear c5;obtain⟨y102,hy102⟩: ∃y_:List Int,y_=(([(wrap64 (48+a0))%256]:List Int)):=⟨_,rfl⟩;replace H:(some (strOfNums y102))=some r:=by first|(rw[hy102];with_reducible exact H)|(have H2_:=(Option.bind_some _ _).symm.trans H;rw[hy102];with_reducible exact H2_)|(have H2_:=(Option.bind_some _ _).symm.trans H;with_reducible exact H2_)|with_reducible exact H|(rw[hy102];exact H)|exact H
     have Ny102:=Aside0.mk hy102;clear hy102;obtain rfl:=Option.some.inj H;go_wp2_with (first|((with_reducible refine gate_dst (N:=14) rfl ?_);refine Kd.R_lit (Kd.int .u8) _ 5 ?hg (N:=14) ?hd (xs:=([(wrap64 (48+a0))%256]:List Int)) (inner:= [.int .u8 ((wrap64 (48+a0))%256)]) (ok:=fun _=>True) (okp:=fun _=>True) ?hr ?hp (fun _ hk=>hk) trivial (Below.refl _ _) (Nat.le_refl _) (by simp) ?_;(case hd=>rfl);(case hg=>rfl);(case hr=>first|(go_simp;done)|(go_simp;rfl));(case hp=>exact(Reps.one (show Kd.M (Kd.int .u8) _ _ _ ((wrap64 (48+a0))%256) [.int .u8 ((wrap64 (48+a0))%256)]from rfl) (Reps.none _ _)));intro v103 w6 ho7 hb hg_ hnew_;clear hg_ hnew_;(first|rw[←Ny102.out]at ho7|(simp only[Int.reduceToNat]at ho7;rw[←Ny102.out]at ho7));have HO104:=Aside0.mk (Kd.R_lower ho7 (below_size zz0));replace HB:=Aside0.mk (below_step zz0 hb);clear hb ho7;have hcv8:=own_string (P:=Tryz.prog) Tryz.underlying45 Tryz.underlying5 Tryz.underlying9 (Kd.own_of_R HO104.out)))
     go_ret;exact⟨zz2,zz0⟩
    ·rw[if_neg c5]at H;have c5b0:decide (a0<10)=false:=decide_eq_false c5;clear c5;replace H:=Option.bind_eq_some_iff.mp H;obtain⟨t105,A90,H⟩:=H;(try dsimp only at H);have A9:=Aside0.mk A90;clear A90;obtain⟨y106,hy106⟩: ∃y_:List Int,y_=(([(wrap64 (48+(Int.tmod a0 10)))%256]:List Int)):=⟨_,rfl⟩;replace H:(if t105.size+(strOfNums y106).size≤9223372036854775807 then(some (t105++(strOfNums y106)))else(none))=some r:=by first|(rw[hy106];with_reducible exact H)|(have H2_:=(Option.bind_some _ _).symm.trans H;rw[hy106];with_reducible exact H2_)|(have H2_:=(Option.bind_some _ _).symm.trans H;with_reducible exact H2_)|with_reducible exact H|(rw[hy106];exact H)|exact H
     have Ny106:=Aside0.mk hy106;clear hy106
     by_cases c10:t105.size+(strOfNums y106).size≤9223372036854775807
     ·rw[if_pos c10]at H;have c10b0:=eq_true c10;have c10b1:decide (t105.size+(strOfNums y106).size≤9223372036854775807)=true:=decide_eq_true c10;(try have c10b2:(9223372036854775807<t105.size+(strOfNums y106).size)=False:=eq_false (Nat.not_lt.2 c10));obtain rfl:=Option.some.inj H;(try go_wp2);replace HB:=Aside0.mk (below_drew1 HB.out);refine st_ (n:=11) (S:=fun w'=>True) (ds:= []) trivial (fun hHeld=>?_);refine with_tabW spec_DecText.tab5 spec_DecText.bits5 (fun HT_ HW_=>?_);generalize wc.drew=w11 at HB hHeld ⊢;refine pz 0 16 ?_;refine pz 1 17 ?_;refine pz 3 19 ?_;refine pz 4 20 ?_;refine pz 5 21 ?_;refine pz 6 22 ?_;refine join_ (σ:=Value) 2 #[true,true,true,true,true,true,true,true,true,false,false] (fun s_=> [(18,.string t105),(23,s_),(24,.string (strOfNums y106))]) (fun s_ w'=>(Kd.R (Kd.int .u8) 5 w' w.heap.size (fun _=>True) s_ y106)∧(Below w.heap.size w w')) ?_ ?_;rotate_left
      ·intro hCont;refine two_ (i:=2) (j:=7) (Ni:=some 18) (Nj:=some 23) #[true,true,true,true,true,true,true,false,false,false,false] #[true,true,false,true,true,true,true,true,false,false,false] rfl rfl rfl rfl (two_of HT_.out (by kernel_rfl)) (by decide) (by decide) (fun K hK=>?_) (fun K hK=>?_)
       ·skip
        refine goZ Tryz.func77 #[.int .i64 (wrap64 (Int.tdiv a0 10))] (ih kj1 (by have:=HJ1.out;omega) (wrap64 (Int.tdiv a0 10)) t105 _ A9.out) ?_;rintro w12 hb;replace HB:=Aside0.mk (below_step zz0 hb);(try clear hb);(try clear hb2);(try clear hk);(try clear hi);refine hK.out _ _ trivial (fun hHeld=>?_);clear hK K;refine nz ?_;refine oz 7 23 (fun K hK=>?_);refine Kd.R_lit_step (Kd.int .u8) _ 5 ?hg (N:=23) ?hd (xs:=([(wrap64 (48+(Int.tmod a0 10)))%256]:List Int)) (inner:= [.int .u8 ((wrap64 (48+(Int.tmod a0 10)))%256)]) (ok:=fun _=>True) (okp:=fun _=>True) ?hr ?hp (fun _ hk=>hk) trivial (Below.refl _ _) (Nat.le_refl _) (by simp) ?_;(case hd=>rfl);(case hg=>rfl);(case hr=>first|(go_simp;done)|(go_simp;rfl));(case hp=>exact(Reps.one (show Kd.M (Kd.int .u8) _ _ _ ((wrap64 (48+(Int.tmod a0 10)))%256) [.int .u8 ((wrap64 (48+(Int.tmod a0 10)))%256)]from rfl) (Reps.none _ _)));intro v107 w13 ho14 hb hg_ hnew_;clear hg_ hnew_;(first|rw[←Ny106.out]at ho14|(simp only[Int.reduceToNat]at ho14;rw[←Ny106.out]at ho14));have HO108:=Aside0.mk (Kd.R_lower ho14 (below_size zz0));replace HB:=Aside0.mk (below_step zz0 hb);clear hb ho14;refine hK.out _ _ trivial (fun hHeld=>?_);clear hK K;refine nz ?_;refine oz 8 24 (fun K hK=>?_);have hcv15:=own_string (P:=Tryz.prog) Tryz.underlying45 Tryz.underlying5 Tryz.underlying9 (Kd.own_of_R HO108.out);refine value_ (w1:=?_) (v:=?_) (by rfl) rfl ?_ ?_;rotate_left 2
        ·go_simp;constructor
         ·rfl
         ·rfl
        clear hcv15;refine hK.out _ _ trivial (fun hHeld=>?_);clear hK K;refine nz ?_;exact norm_ (by first|(simp only[putAll,Act.put,List.setIfInBounds_toArray,List.set_cons_zero,List.set_cons_succ];done)|(simp only[putAll,Act.put,List.setIfInBounds_toArray,List.set_cons_zero,List.set_cons_succ];rfl)) (hCont (v107) _ ⟨zz61,zz0⟩)
       ·skip
        refine Kd.R_lit_step (Kd.int .u8) _ 5 ?hg (N:=23) ?hd (xs:=([(wrap64 (48+(Int.tmod a0 10)))%256]:List Int)) (inner:= [.int .u8 ((wrap64 (48+(Int.tmod a0 10)))%256)]) (ok:=fun _=>True) (okp:=fun _=>True) ?hr ?hp (fun _ hk=>hk) trivial (Below.refl _ _) (Nat.le_refl _) (by simp) ?_;(case hd=>rfl);(case hg=>rfl);(case hr=>first|(go_simp;done)|(go_simp;rfl));(case hp=>exact(Reps.one (show Kd.M (Kd.int .u8) _ _ _ ((wrap64 (48+(Int.tmod a0 10)))%256) [.int .u8 ((wrap64 (48+(Int.tmod a0 10)))%256)]from rfl) (Reps.none _ _)));intro v107 w12 ho13 hb hg_ hnew_;clear hg_ hnew_;(first|rw[←Ny106.out]at ho13|(simp only[Int.reduceToNat]at ho13;rw[←Ny106.out]at ho13));have HO108:=Aside0.mk (Kd.R_lower ho13 (below_size zz0));replace HB:=Aside0.mk (below_step zz0 hb);clear hb ho13;refine hK.out _ _ trivial (fun hHeld=>?_);clear hK K;refine nz ?_;refine two_ (i:=2) (j:=8) (Ni:=some 18) (Nj:=some 24) #[true,true,true,true,true,true,true,true,false,false,false] #[true,true,false,true,true,true,true,true,true,false,false] rfl rfl rfl rfl (two_of HT_.out (by kernel_rfl)) (by decide) (by decide) (fun K hK=>?_) (fun K hK=>?_)
        ·skip
         refine goZ Tryz.func77 #[.int .i64 (wrap64 (Int.tdiv a0 10))] (ih kj1 (by have:=HJ1.out;omega) (wrap64 (Int.tdiv a0 10)) t105 _ A9.out) ?_;rintro w14 hb;replace HO108:=Aside0.mk (Kd.R_below zz61 hb);replace HB:=Aside0.mk (below_step zz0 hb);(try clear hb);(try clear hb2);(try clear hk);(try clear hi);refine hK.out _ _ trivial (fun hHeld=>?_);clear hK K;refine nz ?_;refine oz 8 24 (fun K hK=>?_);have hcv15:=own_string (P:=Tryz.prog) Tryz.underlying45 Tryz.underlying5 Tryz.underlying9 (Kd.own_of_R HO108.out);refine value_ (w1:=?_) (v:=?_) (by rfl) rfl ?_ ?_;rotate_left 2
         ·go_simp;constructor
          ·rfl
          ·rfl
         clear hcv15;refine hK.out _ _ trivial (fun hHeld=>?_);clear hK K;refine nz ?_;exact norm_ (by first|(simp only[putAll,Act.put,List.setIfInBounds_toArray,List.set_cons_zero,List.set_cons_succ];done)|(simp only[putAll,Act.put,List.setIfInBounds_toArray,List.set_cons_zero,List.set_cons_succ];rfl)) (hCont (v107) _ ⟨zz61,zz0⟩)
        ·skip
         have hcv14:=own_string (P:=Tryz.prog) Tryz.underlying45 Tryz.underlying5 Tryz.underlying9 (Kd.own_of_R HO108.out);refine value_ (w1:=?_) (v:=?_) (by rfl) rfl ?_ ?_;rotate_left 2
         ·go_simp;constructor
          ·rfl
          ·rfl
         clear hcv14;refine hK.out _ _ trivial (fun hHeld=>?_);clear hK K;refine nz ?_;refine ozZ 2 18 Tryz.func77 #[.int .i64 (wrap64 (Int.tdiv a0 10))] (ih kj1 (by have:=HJ1.out;omega) (wrap64 (Int.tdiv a0 10)) t105 _ A9.out) (fun K hK=>?_);rintro w15 hb;replace HO108:=Aside0.mk (Kd.R_below zz61 hb);replace HB:=Aside0.mk (below_step zz0 hb);(try clear hb);(try clear hb2);(try clear hk);(try clear hi);refine hK.out _ _ trivial (fun hHeld=>?_);clear hK K;refine nz ?_;exact norm_ (by first|(simp only[putAll,Act.put,List.setIfInBounds_toArray,List.set_cons_zero,List.set_cons_succ];done)|(simp only[putAll,Act.put,List.setIfInBounds_toArray,List.set_cons_zero,List.set_cons_succ];rfl)) (hCont (v107) _ ⟨zz61,zz0⟩)
      rintro v107 w16 ⟨h0_,h1_⟩;have n0_:Aside0 (Kd.R (Kd.int .u8) 5 w16 w.heap.size (fun _=>True) v107 y106):=⟨h0_⟩;have n1_:Aside0 (Below w.heap.size w w16):=⟨h1_⟩;clear HB;clear h0_ h1_;have HO108:=n0_;have HB:=n1_;clear n0_ n1_;have hHeld:=trivial;refine norm_ (a':=?_) ?_ ?_;rotate_left
      ·simp only[putAll,Act.put,List.setIfInBounds_toArray,List.set_cons_zero,List.set_cons_succ];rfl
      refine pz 9 25 ?_;refine pz 10 2 ?_;refine done_ (done_of HT_.out (by kernel_rfl)) ?_;(try go_wp2);go_ret;exact⟨zz2,zz0⟩
     ·rw[if_neg c10]at H;exact absurd H (by simp)
end Go.Proofs.YtgkipkifkobjnaaGreatDoor.GFnExactRecOk
