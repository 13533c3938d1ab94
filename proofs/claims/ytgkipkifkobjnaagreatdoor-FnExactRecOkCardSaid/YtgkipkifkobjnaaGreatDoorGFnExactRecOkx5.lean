-- Printed by gen.py and its programs for this claim.
import Derived.Test.YtgkipkifkobjnaaGreatDoorGFnExactRecOkx0
import Derived.Test.YtgkipkifkobjnaaGreatDoorGFnExactRecOkx1
import Derived.Test.YtgkipkifkobjnaaGreatDoorGFnExactRecOkx2
import Derived.Test.YtgkipkifkobjnaaGreatDoorZFnExactRecOk
namespace Go.Proofs.YtgkipkifkobjnaaGreatDoor.GFnExactRecOk
open Go.RowKit Go.Proofs.YtgkipkifkobjnaaGreatDoorW.PrintWords Go.Proofs.YtgkipkifkobjnaaGreatDoorW.PrintLast Go.Proofs.YtgkipkifkobjnaaGreatDoorW.PrintMore Go.Proofs.YtgkipkifkobjnaaGreatDoorW.Zs
set_option maxHeartbeats 40000000
set_option maxRecDepth 100000
attribute [local go_sem] max2_int min2_int max_two min_two max_three min_three max_four min_four
set_option linter.unusedVariables false
set_option linter.unusedSimpArgs false
def spec_l7port.f (k:Nat) (a0_0:ByteArray) (a0_1:Int) (a0_2 a0_3:ByteArray) (a0_4:Bool):Option (ByteArray):=if a0_1=80 then(some (⟨#[]⟩:ByteArray))else((spec_DecText.f k a0_1).bind fun t164=>(if 1+t164.size≤9223372036854775807 then(some ((⟨#[58]⟩:ByteArray)++t164))else(none)))
theorem spec_l7port.calls (k:Nat) (a0_0:ByteArray) (a0_1:Int) (a0_2 a0_3:ByteArray) (a0_4:Bool) (r:ByteArray) (w:World) (h:spec_l7port.f k a0_0 a0_1 a0_2 a0_3 a0_4=some r):
  Calls Tryz.prog 81 #[.agg #[.string a0_0,.int .i64 a0_1,.string a0_2,.string a0_3,.bool a0_4]] w fun e w'=>e= .returned (.string r)∧Below w.heap.size w w':=by
 have hu41:=Tryz.underlying41;have HB:=Aside0.mk (Below.refl w.heap.size w);have H:(if a0_1=80 then(some (⟨#[]⟩:ByteArray))else((spec_DecText.f k a0_1).bind fun t164=>(if 1+t164.size≤9223372036854775807 then(some ((⟨#[58]⟩:ByteArray)++t164))else(none))))=some r:=h;clear h;have HC2:=Aside0.mk H;clear H;go_enter Tryz.func81,Tryz.ntmps81
 go_upto_if 5 with(first|((with_reducible refine gate_dst (N:=1) rfl ?_);refine boxP_ (N:=1) (cs:= #[.string a0_0,.int .i64 a0_1,.string a0_2,.string a0_3,.bool a0_4]) (t:=41) ?_;intro gb163 hg w3 hbox hb;have BK163:=Aside0.mk (hbox);have GE163:=geb_ (w:=w) hg zz0;replace HB:=Aside0.mk (below_step zz0 hb);clear hb hbox hg;obtain⟨_,_,_,_,_,_,_,_,_,_⟩:=cells5_ BK163.out))
 (try simp only[Act.put,List.setIfInBounds_toArray,List.set_cons_zero,List.set_cons_succ]);have H:=HC2.out;clear HC2
 by_cases c5:a0_1=80
 ·rw[if_pos c5]at H;have c5b0:(a0_1==80)=true:=beq_iff_eq.mpr c5;have c5b1:(a0_1 !=80)=false:=bne_eq_false_iff_eq.mpr c5;clear c5;(first|rw[c5b0]|(simp only[i64_w,i32_w];rw[c5b0])|rw[c5b1]|(rw[c5b2];simp only[Bool.not_true,Bool.not_false])|skip);obtain rfl:=Option.some.inj H;go_wp2
  go_ret;exact⟨zz2,zz71⟩
 ·rw[if_neg c5]at H;have c5b0:(a0_1==80)=false:=beq_eq_false_iff_ne.mpr c5;have c5b1:(a0_1 !=80)=true:=bne_iff_ne.mpr c5;(first|rw[c5b0]|(simp only[i64_w,i32_w];rw[c5b0])|rw[c5b1]|(rw[c5b2];simp only[Bool.not_true,Bool.not_false])|skip);replace H:=Option.bind_eq_some_iff.mp H;obtain⟨t164,A60,H⟩:=H;(try dsimp only at H);have A6:=Aside0.mk A60;clear A60
  by_cases c7:1+t164.size≤9223372036854775807
  ·rw[if_pos c7]at H;have c7b0:=eq_true c7;have c7b1:decide (1+t164.size≤9223372036854775807)=true:=decide_eq_true c7;(try have c7b2:(9223372036854775807<1+t164.size)=False:=eq_false (Nat.not_lt.2 c7));obtain rfl:=Option.some.inj H;obtain⟨_,_,_,_,_,_,_,_,_,_⟩:=cells5_ BK163.out;go_wp2_with (first|((with_reducible refine gate_callee (f:=77) rfl ?_);refine goesR_ 8 Tryz.func77 #[.int .i64 a0_1] (spec_DecText.calls k a0_1 t164 _ A6.out) ?_;rintro w9 hb;replace BK163:=Aside0.mk (blk_below (by(with_reducible repeat(first|refine blk_drewN ?_ _|refine blk_drew ?_|refine blk_alloc ?_ _));exact BK163.out) hb);replace HB:=Aside0.mk (below_step zz71 hb);(try clear hb)))
   go_ret;exact⟨zz2,zz71⟩
  ·rw[if_neg c7]at H;exact absurd H (by simp)
def spec_l7query.f (a0_0:ByteArray) (a0_1:Int) (a0_2 a0_3:ByteArray) (a0_4:Bool):Option (ByteArray):=if a0_4=true then(if 1+a0_3.size≤9223372036854775807 then(some ((⟨#[63]⟩:ByteArray)++a0_3))else(none))else(some (⟨#[]⟩:ByteArray))
theorem spec_l7query.calls (a0_0:ByteArray) (a0_1:Int) (a0_2 a0_3:ByteArray) (a0_4:Bool) (r:ByteArray) (w:World) (h:spec_l7query.f a0_0 a0_1 a0_2 a0_3 a0_4=some r):
  Calls Tryz.prog 82 #[.agg #[.string a0_0,.int .i64 a0_1,.string a0_2,.string a0_3,.bool a0_4]] w fun e w'=>e= .returned (.string r)∧Below w.heap.size w w':=by
 have hu41:=Tryz.underlying41;have HB:=Aside0.mk (Below.refl w.heap.size w);have H:(if a0_4=true then(if 1+a0_3.size≤9223372036854775807 then(some ((⟨#[63]⟩:ByteArray)++a0_3))else(none))else(some (⟨#[]⟩:ByteArray)))=some r:=h;clear h;have HC2:=Aside0.mk H;clear H;go_enter Tryz.func82,Tryz.ntmps82
 go_upto_if 4 with(first|((with_reducible refine gate_dst (N:=1) rfl ?_);refine boxP_ (N:=1) (cs:= #[.string a0_0,.int .i64 a0_1,.string a0_2,.string a0_3,.bool a0_4]) (t:=41) ?_;intro gb165 hg w3 hbox hb;have BK165:=Aside0.mk (hbox);have GE165:=geb_ (w:=w) hg zz0;replace HB:=Aside0.mk (below_step zz0 hb);clear hb hbox hg;obtain⟨_,_,_,_,_,_,_,_,_,_⟩:=cells5_ BK165.out))
 (try simp only[Act.put,List.setIfInBounds_toArray,List.set_cons_zero,List.set_cons_succ]);have H:=HC2.out;clear HC2
 by_cases c5:a0_4=true
 ·subst c5;rw[if_pos rfl]at H
  by_cases c6:1+a0_3.size≤9223372036854775807
  ·rw[if_pos c6]at H;have c6b0:=eq_true c6;have c6b1:decide (1+a0_3.size≤9223372036854775807)=true:=decide_eq_true c6;(try have c6b2:(9223372036854775807<1+a0_3.size)=False:=eq_false (Nat.not_lt.2 c6));obtain rfl:=Option.some.inj H;obtain⟨_,_,_,_,_,_,_,_,_,_⟩:=cells5_ BK165.out;go_wp2
   go_ret;exact⟨zz2,zz100⟩
  ·rw[if_neg c6]at H;exact absurd H (by simp)
 ·replace c5:=Bool.eq_false_iff.mpr c5;subst c5;rw[if_neg Bool.false_ne_true]at H;obtain rfl:=Option.some.inj H;go_wp2
  go_ret;exact⟨zz2,zz100⟩
def spec_l7text.f (k:Nat) (a0_0:ByteArray) (a0_1:Int) (a0_2 a0_3:ByteArray) (a0_4:Bool):Option (ByteArray):=if 7+a0_0.size≤9223372036854775807 then((spec_l7port.f k a0_0 a0_1 a0_2 a0_3 a0_4).bind fun t167=>(if((⟨#[104,116,116,112,58,47,47]⟩:ByteArray)++a0_0).size+t167.size≤9223372036854775807 then(if(((⟨#[104,116,116,112,58,47,47]⟩:ByteArray)++a0_0)++t167).size+a0_2.size≤9223372036854775807 then((spec_l7query.f a0_0 a0_1 a0_2 a0_3 a0_4).bind fun t168=>(if((((⟨#[104,116,116,112,58,47,47]⟩:ByteArray)++a0_0)++t167)++a0_2).size+t168.size≤9223372036854775807 then(some (((((⟨#[104,116,116,112,58,47,47]⟩:ByteArray)++a0_0)++t167)++a0_2)++t168))else(none)))else(none))else(none)))else(none)
def spec_l7text.T1:Bool×List (List Nat×List Nat):=(true,[([],[]),([0],[0]),([1],[1]),([],[]),([3],[3]),([2,4],[2,4]),([],[]),([6],[6]),([5,7],[5,7]),([],[]),([9,4],[9]),([8,10],[8,10]),([11,10,0,1,2,3,4,5,6,7,8,9,10,11],[11])])
def spec_l7text.B1:List Nat:= [0,1,3,0,8,31,0,64,255,0,536,2047,4095]
theorem spec_l7text.tab1:rtab .any (opsOf Tryz.f52 1)=spec_l7text.T1:=by kernel_rfl
theorem spec_l7text.bits1:waitsOk spec_l7text.T1.2 spec_l7text.B1=true:=by kernel_rfl
theorem spec_l7text.calls (k:Nat) (a0_0:ByteArray) (a0_1:Int) (a0_2 a0_3:ByteArray) (a0_4:Bool) (r:ByteArray) (w:World) (h:spec_l7text.f k a0_0 a0_1 a0_2 a0_3 a0_4=some r):
  Calls Tryz.prog 52 #[.agg #[.string a0_0,.int .i64 a0_1,.string a0_2,.string a0_3,.bool a0_4]] w fun e w'=>e= .returned (.string r)∧Below w.heap.size w w':=by
 have hu41:=Tryz.underlying41;have HB:=Aside0.mk (Below.refl w.heap.size w);have H:(if 7+a0_0.size≤9223372036854775807 then((spec_l7port.f k a0_0 a0_1 a0_2 a0_3 a0_4).bind fun t167=>(if((⟨#[104,116,116,112,58,47,47]⟩:ByteArray)++a0_0).size+t167.size≤9223372036854775807 then(if(((⟨#[104,116,116,112,58,47,47]⟩:ByteArray)++a0_0)++t167).size+a0_2.size≤9223372036854775807 then((spec_l7query.f a0_0 a0_1 a0_2 a0_3 a0_4).bind fun t168=>(if((((⟨#[104,116,116,112,58,47,47]⟩:ByteArray)++a0_0)++t167)++a0_2).size+t168.size≤9223372036854775807 then(some (((((⟨#[104,116,116,112,58,47,47]⟩:ByteArray)++a0_0)++t167)++a0_2)++t168))else(none)))else(none))else(none)))else(none))=some r:=h;clear h
 by_cases c2:7+a0_0.size≤9223372036854775807
 ·rw[if_pos c2]at H;have c2b0:=eq_true c2;have c2b1:decide (7+a0_0.size≤9223372036854775807)=true:=decide_eq_true c2;(try have c2b2:(9223372036854775807<7+a0_0.size)=False:=eq_false (Nat.not_lt.2 c2));replace H:=Option.bind_eq_some_iff.mp H;obtain⟨t167,A30,H⟩:=H;(try dsimp only at H);have A3:=Aside0.mk A30;clear A30
  by_cases c4:((⟨#[104,116,116,112,58,47,47]⟩:ByteArray)++a0_0).size+t167.size≤9223372036854775807
  ·rw[if_pos c4]at H;have c4b0:=eq_true c4;have c4b1:decide (((⟨#[104,116,116,112,58,47,47]⟩:ByteArray)++a0_0).size+t167.size≤9223372036854775807)=true:=decide_eq_true c4;(try have c4b2:(9223372036854775807<((⟨#[104,116,116,112,58,47,47]⟩:ByteArray)++a0_0).size+t167.size)=False:=eq_false (Nat.not_lt.2 c4));try have c4z:=c4b2;simp only[ByteArray.size_append,show(⟨#[104,116,116,112,58,47,47]⟩:ByteArray).size=7 from rfl]at c4z;have c4b3:=c4z
   by_cases c5:(((⟨#[104,116,116,112,58,47,47]⟩:ByteArray)++a0_0)++t167).size+a0_2.size≤9223372036854775807
   ·rw[if_pos c5]at H;have c5b0:=eq_true c5;have c5b1:decide ((((⟨#[104,116,116,112,58,47,47]⟩:ByteArray)++a0_0)++t167).size+a0_2.size≤9223372036854775807)=true:=decide_eq_true c5;(try have c5b2:(9223372036854775807<(((⟨#[104,116,116,112,58,47,47]⟩:ByteArray)++a0_0)++t167).size+a0_2.size)=False:=eq_false (Nat.not_lt.2 c5));(try have c5z:=c5b2;simp only[ByteArray.size_append,show(⟨#[104,116,116,112,58,47,47]⟩:ByteArray).size=7 from rfl]at c5z;have c5b3:=c5z);replace H:=Option.bind_eq_some_iff.mp H;obtain⟨t168,A60,H⟩:=H;(try dsimp only at H);have A6:=Aside0.mk A60;clear A60
    by_cases c7:((((⟨#[104,116,116,112,58,47,47]⟩:ByteArray)++a0_0)++t167)++a0_2).size+t168.size≤9223372036854775807
    ·rw[if_pos c7]at H;have c7b0:=eq_true c7;have c7b1:decide (((((⟨#[104,116,116,112,58,47,47]⟩:ByteArray)++a0_0)++t167)++a0_2).size+t168.size≤9223372036854775807)=true:=decide_eq_true c7;(try have c7b2:(9223372036854775807<((((⟨#[104,116,116,112,58,47,47]⟩:ByteArray)++a0_0)++t167)++a0_2).size+t168.size)=False:=eq_false (Nat.not_lt.2 c7));(try have c7z:=c7b2;simp only[ByteArray.size_append,show(⟨#[104,116,116,112,58,47,47]⟩:ByteArray).size=7 from rfl]at c7z;have c7b3:=c7z);obtain rfl:=Option.some.inj H;go_enter Tryz.func52,Tryz.ntmps52
     (try go_wp2_with (first|((with_reducible refine gate_dst (N:=1) rfl ?_);refine boxP_ (N:=1) (cs:= #[.string a0_0,.int .i64 a0_1,.string a0_2,.string a0_3,.bool a0_4]) (t:=41) ?_;intro gb166 hg w8 hbox hb;have BK166:=Aside0.mk (hbox);have GE166:=geb_ (w:=w) hg zz0;replace HB:=Aside0.mk (below_step zz0 hb);clear hb hbox hg)));have n0_:=Aside0.mk (blk_drew BK166.out);have n1_:=Aside0.mk (below_drew1 HB.out);clear BK166;clear HB;have BK166:=n0_;have HB:=n1_;clear n0_ n1_;refine st_ (n:=13) (S:=fun w'=>w'.cell? ⟨gb166,0,none⟩=some (.string a0_0)∧w'.cell? ⟨gb166,1,none⟩=some (.int .i64 a0_1)∧w'.cell? ⟨gb166,2,none⟩=some (.string a0_2)∧w'.cell? ⟨gb166,3,none⟩=some (.string a0_3)∧w'.cell? ⟨gb166,4,none⟩=some (.bool a0_4)) (ds:= []) ⟨(blk_cell BK166.out 0).trans rfl,(blk_cell BK166.out 1).trans rfl,(blk_cell BK166.out 2).trans rfl,(blk_cell BK166.out 3).trans rfl,(blk_cell BK166.out 4).trans rfl⟩ (fun hHeld=>?_);refine with_tabW spec_l7text.tab1 spec_l7text.bits1 (fun HT_ HW_=>?_);generalize w8.drew=w9 at BK166 HB hHeld ⊢;refine pz 0 3 ?_;refine pz 6 9 ?_;refine tk0_ 1 4 hHeld ?_;refine pz 2 5 ?_;refine tk0_ 3 6 hHeld ?_;refine tk0_ 7 10 hHeld ?_;refine tk0_ 9 12 hHeld ?_;refine ozZ 4 7 Tryz.func81 #[.agg #[.string a0_0,.int .i64 a0_1,.string a0_2,.string a0_3,.bool a0_4]] (spec_l7port.calls k a0_0 a0_1 a0_2 a0_3 a0_4 t167 _ A3.out) (fun K hK=>?_);rintro w10 hb;have n0_:=Aside0.mk (blk_below (by(with_reducible repeat(first|refine blk_drewN ?_ _|refine blk_drew ?_|refine blk_alloc ?_ _));exact BK166.out) hb);have n1_:=Aside0.mk (below_step zz70 hb);clear BK166;clear HB;have BK166:=n0_;have HB:=n1_;clear n0_ n1_;(try clear hb);(try clear hb2);(try clear hk);(try clear hi);refine hK.out _ _ ⟨(blk_cell BK166.out 0).trans rfl,(blk_cell BK166.out 1).trans rfl,(blk_cell BK166.out 2).trans rfl,(blk_cell BK166.out 3).trans rfl,(blk_cell BK166.out 4).trans rfl⟩ (fun hHeld=>?_);clear hK K;refine nz ?_;refine pz 5 8 ?_;refine pz 8 11 ?_;refine ozZ 10 13 Tryz.func82 #[.agg #[.string a0_0,.int .i64 a0_1,.string a0_2,.string a0_3,.bool a0_4]] (spec_l7query.calls a0_0 a0_1 a0_2 a0_3 a0_4 t168 _ A6.out) (fun K hK=>?_);rintro w11 hb;have n0_:=Aside0.mk (blk_below (by(with_reducible repeat(first|refine blk_drewN ?_ _|refine blk_drew ?_|refine blk_alloc ?_ _));exact BK166.out) hb);have n1_:=Aside0.mk (below_step zz70 hb);clear BK166;clear HB;have BK166:=n0_;have HB:=n1_;clear n0_ n1_;(try clear hb);(try clear hb2);(try clear hk);(try clear hi);refine hK.out _ _ ⟨(blk_cell BK166.out 0).trans rfl,(blk_cell BK166.out 1).trans rfl,(blk_cell BK166.out 2).trans rfl,(blk_cell BK166.out 3).trans rfl,(blk_cell BK166.out 4).trans rfl⟩ (fun hHeld=>?_);clear hK K;refine nz ?_;refine pz 11 14 ?_;refine pz 12 2 ?_;refine done_ (done_of HT_.out (by kernel_rfl)) ?_;(try go_wp2);go_ret;exact⟨zz2,zz70⟩
    ·rw[if_neg c7]at H;exact absurd H (by simp)
   ·rw[if_neg c5]at H;exact absurd H (by simp)
  ·rw[if_neg c4]at H;exact absurd H (by simp)
 ·rw[if_neg c2]at H;exact absurd H (by simp)
mutual
def spec_l7host.j0:Nat→ByteArray→Bool→Option (Bool)
 |0,_,_=>none
 |k+1,x0,x14=>if x14=true then(some false)else((spec_l7split.f k x0 46).bind fun t169=>(spec_l7host.l0 k t169 0))
def spec_l7host.l0:Nat→List ByteArray→Int→Option (Bool)
 |0,_,_=>none
 |k+1,x3,x4=>if x4<(x3.length:Int)then(if 0≤x4 then(if(rdOf ByteArray.empty x3 x4).toList=([]:List UInt8)then(some false)else(spec_l7host.l1 k x3 x4 0))else(none))else(some true)
def spec_l7host.l1:Nat→List ByteArray→Int→Int→Option (Bool)
 |0,_,_,_=>none
 |k+1,x3,x4,x5=>if 0≤x4 then(if x4<(x3.length:Int)then(if x5<((rdOf ByteArray.empty x3 x4).size:Int)then(if 0≤x5 then(if(bt (rdOf ByteArray.empty x3 x4) x5)≥97 then(if((bt (rdOf ByteArray.empty x3 x4) x5)≤122)then(spec_l7host.l1 k x3 x4 (wrap64 (x5+1)))else((spec_l1digit.f (bt (rdOf ByteArray.empty x3 x4) x5)).bind fun t175=>(if t175=true then(spec_l7host.l1 k x3 x4 (wrap64 (x5+1)))else(if(bt (rdOf ByteArray.empty x3 x4) x5)=45 then(spec_l7host.l1 k x3 x4 (wrap64 (x5+1)))else(some false)))))else((spec_l1digit.f (bt (rdOf ByteArray.empty x3 x4) x5)).bind fun t176=>(if t176=true then(spec_l7host.l1 k x3 x4 (wrap64 (x5+1)))else(if(bt (rdOf ByteArray.empty x3 x4) x5)=45 then(spec_l7host.l1 k x3 x4 (wrap64 (x5+1)))else(some false)))))else(none))else(spec_l7host.l0 k x3 (wrap64 (x4+1))))else(none))else(none)
end
def spec_l7host.f (k:Nat) (a0:ByteArray):Option (Bool):=if(a0.size:Int)=0 then(spec_l7host.j0 k a0 true)else(spec_l7host.j0 k a0 (decide ((a0.size:Int)>60)))
theorem spec_l7host.calls (k:Nat) (a0:ByteArray) (r:Bool) (w:World) (h:spec_l7host.f k a0=some r):
  Calls Tryz.prog 80 #[.string a0] w fun e w'=>e= .returned (.bool r)∧Below w.heap.size w w':=by
 have HB:=Aside0.mk (Below.refl w.heap.size w);have H:(if(a0.size:Int)=0 then(spec_l7host.j0 k a0 true)else(spec_l7host.j0 k a0 (decide ((a0.size:Int)>60))))=some r:=h;clear h;have HC2:=Aside0.mk H;clear H;go_enter Tryz.func80,Tryz.ntmps80
 go_upto_region 1 with(fail)
 go_cut [14] (fun v14 wc=> ∃(kq:Nat) (x14_1:Bool),v14= .bool x14_1∧Aside0 (spec_l7host.j0 kq a0 x14_1=some r)∧Aside0 (kq≤k)∧Aside0 (Below w.heap.size w wc))
 case first=>
  have H:=HC2.out;clear HC2
  by_cases c3:(a0.size:Int)=0
  ·rw[if_pos c3]at H;have c3b0:((a0.size:Int)==0)=true:=beq_iff_eq.mpr c3;have c3b1:((a0.size:Int)!=0)=false:=bne_eq_false_iff_eq.mpr c3;clear c3;(first|rw[c3b0]|(simp only[i64_w,i32_w];rw[c3b0])|rw[c3b1]|(rw[c3b2];simp only[Bool.not_true,Bool.not_false])|skip);have H':=Aside0.mk H;clear H;go_wp2
   go_meet
   case rel=>exact⟨_,(true),zz1,H',⟨zz23⟩,⟨zz0⟩⟩
  ·rw[if_neg c3]at H;have c3b0:((a0.size:Int)==0)=false:=beq_eq_false_iff_ne.mpr c3;have c3b1:((a0.size:Int)!=0)=true:=bne_iff_ne.mpr c3;(first|rw[c3b0]|(simp only[i64_w,i32_w];rw[c3b0])|rw[c3b1]|(rw[c3b2];simp only[Bool.not_true,Bool.not_false])|skip);have H':=Aside0.mk H;clear H;go_wp2
   go_meet
   case rel=>exact⟨_,(decide ((a0.size:Int)>60)),zz1,H',⟨zz23⟩,⟨zz0⟩⟩
 case rest=>as_aux_lemma=>
  clear HC2;(try clear p2);(try clear c3);(try clear c3b0);(try clear c3b1);obtain⟨kq,x14_1,rfl,HA,HJ1,HB⟩:=hcut
  cases kq with
  |zero=>exact absurd HA.out (by simp[spec_l7host.j0])
  |succ kj1=>
   have H:=HA.out;clear HA;simp only[spec_l7host.j0]at H
   by_cases c4:x14_1=true
   ·subst c4;rw[if_pos rfl]at H;obtain rfl:=Option.some.inj H;go_wp2
    go_ret;exact⟨zz2,zz0⟩
   ·as_aux_lemma=>
    replace c4:=Bool.eq_false_iff.mpr c4;subst c4;rw[if_neg Bool.false_ne_true]at H;replace H:=Option.bind_eq_some_iff.mp H;obtain⟨t169,A50,H⟩:=H;(try dsimp only at H);have A5:=Aside0.mk A50;clear A50;have H':=Aside0.mk H;clear H;go_wp2_with (first|((with_reducible refine gate_callee (f:=78) rfl ?_);refine goesQ_ 16 Tryz.func78 #[.string a0,.int .u8 46] ?_;(with_reducible refine(spec_l7split.calls kj1 a0 46 t169 _ A5.out).mono ?_);rintro e w6 ⟨v170,rfl,ho0,hb⟩;refine⟨_,rfl,?_⟩;have HO171:=Aside0.mk (Kd.R_lower ho0 (below_size zz0));replace HB:=Aside0.mk (below_step zz0 hb);(try clear hb);(try clear ho0)))
    go_loopg [4] kj1 (fun kq v4 w'=> ∃(x4_2:Int),v4= .int .i64 x4_2∧Aside0 (spec_l7host.l0 kq t169 x4_2=some r)∧Aside0 (kq≤kj1)∧Aside0 (Kd.R Kd.string 9 w' w.heap.size (fun _=>True) v170 t169)∧Aside0 (Below w.heap.size w w'))
    case atStart=>exact⟨(0),zz1,H',⟨Nat.le_refl _⟩,⟨by(with_reducible repeat(first|apply Kd.R_alloc|apply Kd.R_drewN|apply Kd.R_drew));exact HO171.out⟩,⟨zz0⟩⟩
    case round=>as_aux_lemma=>
     clear H';(try clear p2);(try clear c3);(try clear c3b0);(try clear c3b1);(try clear c4);(try clear p2);obtain⟨x4_2,rfl,HA,HK2,HO_3,HB⟩:=hrel
     cases gk with
     |zero=>exact absurd HA.out (by simp[spec_l7host.l0])
     |succ k2=>
      have H:=HA.out;clear HA;simp only[spec_l7host.l0]at H
      by_cases c7:x4_2<(t169.length:Int)
      ·as_aux_lemma=>
       rw[if_pos c7]at H;have c7b0:decide (x4_2<(t169.length:Int))=true:=decide_eq_true c7;clear c7
       by_cases c8:0≤x4_2
       ·as_aux_lemma=>
        rw[if_pos c8]at H;have c8b0:decide (0≤x4_2)=true:=decide_eq_true c8;clear c8
        by_cases c9:(rdOf ByteArray.empty t169 x4_2).toList=([]:List UInt8)
        ·rw[if_pos c9]at H;have c9b0:((rdOf ByteArray.empty t169 x4_2).toList==([]:List UInt8))=true:=beq_iff_eq.mpr c9;have c9e:(rdOf ByteArray.empty t169 x4_2).toList.isEmpty=true:=by have hz_:=beq_iff_eq.1 c9b0;rw[hz_];rfl
         (try rw[c9e]);have c9b1:((rdOf ByteArray.empty t169 x4_2).toList !=([]:List UInt8))=false:=bne_eq_false_iff_eq.mpr c9;clear c9;obtain rfl:=Option.some.inj H;obtain⟨Ao10,co10,eo10⟩:=Kd.R_slice HO_3.out;subst eo10;have p172:0≤(x4_2:Int):=of_decide_eq_true zz3;have q172:x4_2<(t169.length:Int):=of_decide_eq_true zz3;obtain⟨ad172,e172,hx172_0⟩:=Kd.at_string (Kd.R_reads' HO_3.out).2.2 x4_2 p172 q172;cases e172;replace p172:=eq_true p172;replace q172:=eq_true q172;go_wp2
         go_ret;exact⟨zz2,zz0⟩
        ·as_aux_lemma=>
         rw[if_neg c9]at H;have c9b0:((rdOf ByteArray.empty t169 x4_2).toList==([]:List UInt8))=false:=beq_eq_false_iff_ne.mpr c9;have c9e:(rdOf ByteArray.empty t169 x4_2).toList.isEmpty=false:=by cases hz_:(rdOf ByteArray.empty t169 x4_2).toList with|nil=>(rw[hz_]at c9b0;exact absurd c9b0 (by decide))|cons _ _=>rfl
         (try rw[c9e]);have c9b1:((rdOf ByteArray.empty t169 x4_2).toList !=([]:List UInt8))=true:=bne_iff_ne.mpr c9;have H':=Aside0.mk H;clear H;obtain⟨Ao11,co11,eo11⟩:=Kd.R_slice HO_3.out;subst eo11;have p172:0≤(x4_2:Int):=of_decide_eq_true zz3;have q172:x4_2<(t169.length:Int):=of_decide_eq_true zz3;obtain⟨ad172,e172,hx172_0⟩:=Kd.at_string (Kd.R_reads' HO_3.out).2.2 x4_2 p172 q172;cases e172;replace p172:=eq_true p172;replace q172:=eq_true q172;go_wp2
         go_loopg [5] k2 (fun kq v5 w'=> ∃(x5_3:Int),v5= .int .i64 x5_3∧Aside0 (spec_l7host.l1 kq t169 x4_2 x5_3=some r)∧Aside0 (kq≤k2)∧Aside0 (Kd.R Kd.string 9 w' w.heap.size (fun _=>True) (.slice (some ad172) t169.length co11) t169)∧Aside0 (Below w.heap.size w w'))
         case atStart=>exact⟨(0),zz1,H',⟨Nat.le_refl _⟩,⟨zz6⟩,⟨zz0⟩⟩
         case round=>as_aux_lemma=>
          clear H';(try clear p1);(try clear q1);(try clear hx1);(try clear p2);(try clear c3);(try clear c3b0);(try clear c3b1);(try clear c4);(try clear c7);(try clear c7b0);(try clear c8);(try clear c8b0);(try clear c9);(try clear c9b0);(try clear c9b1);(try clear hx172_0);(try clear p172);(try clear p2);(try clear q172);obtain⟨x5_3,rfl,HA,HK3,HO_3,HB⟩:=hrel
          cases gk with
          |zero=>exact absurd HA.out (by simp[spec_l7host.l1])
          |succ k3=>
           have H:=HA.out;clear HA;simp only[spec_l7host.l1]at H
           by_cases c12:0≤x4_2
           ·as_aux_lemma=>
            rw[if_pos c12]at H;have c12b0:decide (0≤x4_2)=true:=decide_eq_true c12;clear c12
            by_cases c13:x4_2<(t169.length:Int)
            ·as_aux_lemma=>
             rw[if_pos c13]at H;have c13b0:decide (x4_2<(t169.length:Int))=true:=decide_eq_true c13;clear c13
             by_cases c14:x5_3<((rdOf ByteArray.empty t169 x4_2).size:Int)
             ·rw[if_pos c14]at H;have c14b0:decide (x5_3<((rdOf ByteArray.empty t169 x4_2).size:Int))=true:=decide_eq_true c14;clear c14
              by_cases c15:0≤x5_3
              ·rw[if_pos c15]at H;have c15b0:decide (0≤x5_3)=true:=decide_eq_true c15;clear c15;have HC17:=Aside0.mk H;clear H;have p173:0≤(x4_2:Int):=of_decide_eq_true zz3;have q173:x4_2<(t169.length:Int):=of_decide_eq_true zz3;obtain⟨ad173,e173,hx173_0⟩:=Kd.at_string (Kd.R_reads' HO_3.out).2.2 x4_2 p173 q173;obtain rfl:ad172=ad173:=(by injection e173);replace p173:=eq_true p173;replace q173:=eq_true q173;have p174:0≤(x4_2:Int):=of_decide_eq_true zz3;have q174:x4_2<(t169.length:Int):=of_decide_eq_true zz3;obtain⟨ad174,e174,hx174_0⟩:=Kd.at_string (Kd.R_reads' HO_3.out).2.2 x4_2 p174 q174;obtain rfl:ad172=ad174:=(by injection e174);replace p174:=eq_true p174;replace q174:=eq_true q174;have p16:0≤(x5_3:Int):=of_decide_eq_true zz3;have q16:x5_3<((rdOf ByteArray.empty t169 x4_2).size:Int):=of_decide_eq_true zz3;have hx16:=bt_at (rdOf ByteArray.empty t169 x4_2) x5_3;replace p16:=eq_true p16;replace q16:=eq_true q16
               repeat' (first|(go_big_may;(fail))|go_values|go_skip|go_big_skip|go_big_want|((first|(with_reducible refine gate_nog rfl ?_)|(fail_if_success with_reducible refine gate_any ?_));go_step)|go_upon|simp only[Bool.not_true,Bool.not_false,Bool.true_and,Bool.false_and,Bool.true_or,Bool.false_or]|dsimp only)
               have H:=HC17.out;clear HC17
               by_cases c18:(bt (rdOf ByteArray.empty t169 x4_2) x5_3)≥97
               ·rw[if_pos c18]at H;have c18b0:decide (97≤(bt (rdOf ByteArray.empty t169 x4_2) x5_3))=true:=decide_eq_true c18;clear c18;(first|rw[c18b0]|(simp only[i64_w,i32_w];rw[c18b0])|skip)
                by_cases c19:((bt (rdOf ByteArray.empty t169 x4_2) x5_3)≤122)
                ·rw[if_pos c19]at H;have c19b0:decide ((bt (rdOf ByteArray.empty t169 x4_2) x5_3)≤122)=true:=decide_eq_true c19;clear c19;have H':=Aside0.mk H;clear H;go_wp2
                 go_roundg k3
                 (case measure=>have:=HJ1.out;have:=HK2.out;have:=HK3.out;omega);case rel=>exact⟨(wrap64 (x5_3+1)),zz1,H',⟨zz76⟩,⟨zz6⟩,⟨zz0⟩⟩
                ·rw[if_neg c19]at H;have c19b0:decide ((bt (rdOf ByteArray.empty t169 x4_2) x5_3)≤122)=false:=decide_eq_false c19;clear c19;replace H:=Option.bind_eq_some_iff.mp H;obtain⟨t175,A200,H⟩:=H;(try dsimp only at H);have A20:=Aside0.mk A200;clear A200;have HC21:=Aside0.mk H;clear H
                 repeat' (first|(go_big_may;(first|(go_at_call 76;(with_reducible refine(spec_l1digit.calls (bt (rdOf ByteArray.empty t169 x4_2) x5_3) t175 _ A20.out).mono ?_);rintro e w' ⟨rfl,⟨nd,rfl⟩⟩)))|go_values|go_skip|go_big_skip|go_big_want|((first|(with_reducible refine gate_nog rfl ?_)|(fail_if_success with_reducible refine gate_any ?_));go_step)|go_upon|simp only[Bool.not_true,Bool.not_false,Bool.true_and,Bool.false_and,Bool.true_or,Bool.false_or]|dsimp only)
                 (try simp only[Act.put,List.setIfInBounds_toArray,List.set_cons_zero,List.set_cons_succ]);(try(rw[drewN_self wr];generalize hq_:World.drewN wr _=wr;have n0_:Aside0 (Kd.R Kd.string 9 wr w.heap.size (fun _=>True) (.slice (some ad172) t169.length co11) t169):=⟨by rw[←hq_];exact zz6⟩;have n1_:Aside0 (Below w.heap.size w wr):=⟨zz107⟩;clear HO_3 HB hq_;have HO_3:=n0_;have HB:=n1_;clear n0_ n1_));have H:=HC21.out;clear HC21
                 by_cases c22:t175=true
                 ·subst c22;rw[if_pos rfl]at H;have H':=Aside0.mk H;clear H;go_wp2
                  go_roundg k3
                  (case measure=>have:=HJ1.out;have:=HK2.out;have:=HK3.out;omega);case rel=>exact⟨(wrap64 (x5_3+1)),zz1,H',⟨zz76⟩,⟨zz6⟩,⟨zz0⟩⟩
                 ·replace c22:=Bool.eq_false_iff.mpr c22;subst c22;rw[if_neg Bool.false_ne_true]at H
                  by_cases c23:(bt (rdOf ByteArray.empty t169 x4_2) x5_3)=45
                  ·rw[if_pos c23]at H;have c23b0:((bt (rdOf ByteArray.empty t169 x4_2) x5_3)==45)=true:=beq_iff_eq.mpr c23;have c23b1:((bt (rdOf ByteArray.empty t169 x4_2) x5_3)!=45)=false:=bne_eq_false_iff_eq.mpr c23;clear c23;(first|rw[c23b0]|(simp only[i64_w,i32_w];rw[c23b0])|rw[c23b1]|(rw[c23b2];simp only[Bool.not_true,Bool.not_false])|skip);have H':=Aside0.mk H;clear H;go_wp2
                   go_roundg k3
                   (case measure=>have:=HJ1.out;have:=HK2.out;have:=HK3.out;omega);case rel=>exact⟨(wrap64 (x5_3+1)),zz1,H',⟨zz76⟩,⟨zz6⟩,⟨zz0⟩⟩
                  ·rw[if_neg c23]at H;have c23b0:((bt (rdOf ByteArray.empty t169 x4_2) x5_3)==45)=false:=beq_eq_false_iff_ne.mpr c23;have c23b1:((bt (rdOf ByteArray.empty t169 x4_2) x5_3)!=45)=true:=bne_iff_ne.mpr c23;(first|rw[c23b0]|(simp only[i64_w,i32_w];rw[c23b0])|rw[c23b1]|(rw[c23b2];simp only[Bool.not_true,Bool.not_false])|skip);obtain rfl:=Option.some.inj H;go_wp2
                   go_ret;exact⟨zz2,zz0⟩
               ·rw[if_neg c18]at H;have c18b0:decide (97≤(bt (rdOf ByteArray.empty t169 x4_2) x5_3))=false:=decide_eq_false c18;clear c18;(first|rw[c18b0]|(simp only[i64_w,i32_w];rw[c18b0])|skip);replace H:=Option.bind_eq_some_iff.mp H;obtain⟨t176,A240,H⟩:=H;(try dsimp only at H);have A24:=Aside0.mk A240;clear A240;have HC25:=Aside0.mk H;clear H
                repeat' (first|(go_big_may;(first|(go_at_call 76;(with_reducible refine(spec_l1digit.calls (bt (rdOf ByteArray.empty t169 x4_2) x5_3) t176 _ A24.out).mono ?_);rintro e w' ⟨rfl,⟨nd,rfl⟩⟩)))|go_values|go_skip|go_big_skip|go_big_want|((first|(with_reducible refine gate_nog rfl ?_)|(fail_if_success with_reducible refine gate_any ?_));go_step)|go_upon|simp only[Bool.not_true,Bool.not_false,Bool.true_and,Bool.false_and,Bool.true_or,Bool.false_or]|dsimp only)
                (try simp only[Act.put,List.setIfInBounds_toArray,List.set_cons_zero,List.set_cons_succ]);(try(rw[drewN_self wr];generalize hq_:World.drewN wr _=wr;have n0_:Aside0 (Kd.R Kd.string 9 wr w.heap.size (fun _=>True) (.slice (some ad172) t169.length co11) t169):=⟨by rw[←hq_];exact zz6⟩;have n1_:Aside0 (Below w.heap.size w wr):=⟨zz107⟩;clear HO_3 HB hq_;have HO_3:=n0_;have HB:=n1_;clear n0_ n1_));have H:=HC25.out;clear HC25
                by_cases c26:t176=true
                ·subst c26;rw[if_pos rfl]at H;have H':=Aside0.mk H;clear H;go_wp2
                 go_roundg k3
                 (case measure=>have:=HJ1.out;have:=HK2.out;have:=HK3.out;omega);case rel=>exact⟨(wrap64 (x5_3+1)),zz1,H',⟨zz76⟩,⟨zz6⟩,⟨zz0⟩⟩
                ·replace c26:=Bool.eq_false_iff.mpr c26;subst c26;rw[if_neg Bool.false_ne_true]at H
                 by_cases c27:(bt (rdOf ByteArray.empty t169 x4_2) x5_3)=45
                 ·rw[if_pos c27]at H;have c27b0:((bt (rdOf ByteArray.empty t169 x4_2) x5_3)==45)=true:=beq_iff_eq.mpr c27;have c27b1:((bt (rdOf ByteArray.empty t169 x4_2) x5_3)!=45)=false:=bne_eq_false_iff_eq.mpr c27;clear c27;(first|rw[c27b0]|(simp only[i64_w,i32_w];rw[c27b0])|rw[c27b1]|(rw[c27b2];simp only[Bool.not_true,Bool.not_false])|skip);have H':=Aside0.mk H;clear H;go_wp2
                  go_roundg k3
                  (case measure=>have:=HJ1.out;have:=HK2.out;have:=HK3.out;omega);case rel=>exact⟨(wrap64 (x5_3+1)),zz1,H',⟨zz76⟩,⟨zz6⟩,⟨zz0⟩⟩
                 ·rw[if_neg c27]at H;have c27b0:((bt (rdOf ByteArray.empty t169 x4_2) x5_3)==45)=false:=beq_eq_false_iff_ne.mpr c27;have c27b1:((bt (rdOf ByteArray.empty t169 x4_2) x5_3)!=45)=true:=bne_iff_ne.mpr c27;(first|rw[c27b0]|(simp only[i64_w,i32_w];rw[c27b0])|rw[c27b1]|(rw[c27b2];simp only[Bool.not_true,Bool.not_false])|skip);obtain rfl:=Option.some.inj H;go_wp2
                  go_ret;exact⟨zz2,zz0⟩
              ·rw[if_neg c15]at H;exact absurd H (by simp)
             ·rw[if_neg c14]at H;have c14b0:decide (x5_3<((rdOf ByteArray.empty t169 x4_2).size:Int))=false:=decide_eq_false c14;clear c14;have H':=Aside0.mk H;clear H;have p173:0≤(x4_2:Int):=of_decide_eq_true zz3;have q173:x4_2<(t169.length:Int):=of_decide_eq_true zz3;obtain⟨ad173,e173,hx173_0⟩:=Kd.at_string (Kd.R_reads' HO_3.out).2.2 x4_2 p173 q173;obtain rfl:ad172=ad173:=(by injection e173);replace p173:=eq_true p173;replace q173:=eq_true q173;go_wp2
              go_roundg k3
              (case measure=>have:=HJ1.out;have:=HK2.out;have:=HK3.out;omega);case rel=>exact⟨(wrap64 (x4_2+1)),zz1,H',⟨zz76⟩,⟨zz6⟩,⟨zz0⟩⟩
            ·rw[if_neg c13]at H;exact absurd H (by simp)
           ·rw[if_neg c12]at H;exact absurd H (by simp)
       ·rw[if_neg c8]at H;exact absurd H (by simp)
      ·rw[if_neg c7]at H;have c7b0:decide (x4_2<(t169.length:Int))=false:=decide_eq_false c7;clear c7;obtain rfl:=Option.some.inj H;obtain⟨Ao28,co28,eo28⟩:=Kd.R_slice HO_3.out;subst eo28;go_wp2
       go_ret;exact⟨zz2,zz0⟩
end Go.Proofs.YtgkipkifkobjnaaGreatDoor.GFnExactRecOk
