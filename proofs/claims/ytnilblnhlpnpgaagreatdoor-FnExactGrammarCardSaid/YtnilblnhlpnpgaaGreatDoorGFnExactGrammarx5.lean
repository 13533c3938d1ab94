-- Printed by gen.py and its programs for this claim.
import Derived.Test.YtnilblnhlpnpgaaGreatDoorGFnExactGrammarx0
import Derived.Test.YtnilblnhlpnpgaaGreatDoorGFnExactGrammarx3
import Derived.Test.YtnilblnhlpnpgaaGreatDoorGFnExactGrammarx4
import Derived.Test.YtnilblnhlpnpgaaGreatDoorZFnExactGrammar
namespace Go.Proofs.YtnilblnhlpnpgaaGreatDoor.GFnExactGrammar
open Go.RowKit Go.Proofs.YtnilblnhlpnpgaaGreatDoorW.PrintWords Go.Proofs.YtnilblnhlpnpgaaGreatDoorW.PrintLast Go.Proofs.YtnilblnhlpnpgaaGreatDoorW.PrintMore Go.Proofs.YtnilblnhlpnpgaaGreatDoorW.Zs
set_option maxHeartbeats 40000000
set_option maxRecDepth 100000
attribute [local go_sem] max2_int min2_int max_two min_two max_three min_three max_four min_four
set_option linter.unusedVariables false
set_option linter.unusedSimpArgs false
def spec_l2year.f (a0:Int):Option (Int):=(spec_l2leap.f a0).bind fun t118=>(if t118=true then(some 366)else(some 365))
theorem spec_l2year.calls (a0 r:Int) (w:World) (h:spec_l2year.f a0=some r):
  Calls Tryz.prog 154 #[.int .i64 a0] w fun e w'=>e= .returned (.int .i64 r)∧Drawn0 w w':=by
 have H:((spec_l2leap.f a0).bind fun t118=>(if t118=true then(some 366)else(some 365)))=some r:=h;clear h;replace H:=Option.bind_eq_some_iff.mp H;obtain⟨t118,A20,H⟩:=H;(try dsimp only at H);have A2:=Aside0.mk A20;clear A20;have HC3:=Aside0.mk H;clear H;go_enter Tryz.func154,Tryz.ntmps154
 go_upto_if 4 with(first|((with_reducible refine gate_callee (f:=179) rfl ?_);refine goesR_ 4 Tryz.func179 #[.int .i64 a0] (spec_l2leap.calls a0 t118 _ A2.out) ?_;rintro w' ⟨nd,rfl⟩))
 (try simp only[Act.put,List.setIfInBounds_toArray,List.set_cons_zero,List.set_cons_succ]);have H:=HC3.out;clear HC3
 by_cases c4:t118=true
 ·subst c4;rw[if_pos rfl]at H;obtain rfl:=Option.some.inj H;go_wp2
  go_ret;exact⟨zz3,zz5⟩
 ·replace c4:=Bool.eq_false_iff.mpr c4;subst c4;rw[if_neg Bool.false_ne_true]at H;obtain rfl:=Option.some.inj H;go_wp2
  go_ret;exact⟨zz3,zz5⟩
mutual
def spec_SecondsOf.l0:Nat→Int→Int→Int→Int→Int→Int→Int→Int→Option (Int×Bool)
 |0,_,_,_,_,_,_,_,_=>none
 |k+1,x4,x5,x120000,x120001,x120002,x120003,x120004,x120005=>if x5<x120000 then((spec_l2year.f x5).bind fun t121=>(spec_SecondsOf.l0 k (wrap64 (x4+t121)) (wrap64 (x5+1)) x120000 x120001 x120002 x120003 x120004 x120005))else(spec_SecondsOf.l1 k x4 1 x120000 x120001 x120002 x120003 x120004 x120005)
def spec_SecondsOf.l1:Nat→Int→Int→Int→Int→Int→Int→Int→Int→Option (Int×Bool)
 |0,_,_,_,_,_,_,_,_=>none
 |k+1,x4,x6,x120000,x120001,x120002,x120003,x120004,x120005=>if x6<x120001 then((spec_l2days.f x120000 x6).bind fun t122=>(spec_SecondsOf.l1 k (wrap64 (x4+t122)) (wrap64 (x6+1)) x120000 x120001 x120002 x120003 x120004 x120005))else(some (wrap64 ((wrap64 ((wrap64 ((wrap64 ((wrap64 ((wrap64 (x4*24))+x120003))*60))+x120004))*60))+x120005),true))
end
def spec_SecondsOf.f (k:Nat) (a0_0 a0_1 a0_2 a0_3 a0_4 a0_5:Int):Option (Int×Bool):=(spec_CivilOk.f a0_0 a0_1 a0_2 a0_3 a0_4 a0_5).bind fun t120=>(if t120=true then(spec_SecondsOf.l0 k (wrap64 (a0_2-1)) 1970 a0_0 a0_1 a0_2 a0_3 a0_4 a0_5)else(some (0,false)))
theorem spec_SecondsOf.calls (k:Nat) (a0_0 a0_1 a0_2 a0_3 a0_4 a0_5 r1:Int) (r2:Bool) (w:World) (h:spec_SecondsOf.f k a0_0 a0_1 a0_2 a0_3 a0_4 a0_5=some (r1,r2)):
  Calls Tryz.prog 127 #[.agg #[.int .i64 a0_0,.int .i64 a0_1,.int .i64 a0_2,.int .i64 a0_3,.int .i64 a0_4,.int .i64 a0_5]] w fun e w'=>e= .returned (.tuple #[.int .i64 r1,.bool r2])∧Below w.heap.size w w':=by
 have hu120:=Tryz.underlying120;have HB:=Aside0.mk (Below.refl w.heap.size w);have H:((spec_CivilOk.f a0_0 a0_1 a0_2 a0_3 a0_4 a0_5).bind fun t120=>(if t120=true then(spec_SecondsOf.l0 k (wrap64 (a0_2-1)) 1970 a0_0 a0_1 a0_2 a0_3 a0_4 a0_5)else(some (0,false))))=some (r1,r2):=h;clear h;replace H:=Option.bind_eq_some_iff.mp H;obtain⟨t120,A20,H⟩:=H;(try dsimp only at H);have A2:=Aside0.mk A20;clear A20;have HC3:=Aside0.mk H;clear H;go_enter Tryz.func127,Tryz.ntmps127
 go_upto_if 9 with(first|((with_reducible refine gate_dst (N:=1) rfl ?_);refine boxP_ (N:=1) (cs:= #[.int .i64 a0_0,.int .i64 a0_1,.int .i64 a0_2,.int .i64 a0_3,.int .i64 a0_4,.int .i64 a0_5]) (t:=120) ?_;intro gb119 hg w4 hbox hb;have BK119:=Aside0.mk (hbox);have GE119:=geb_ (w:=w) hg zz0;replace HB:=Aside0.mk (below_step zz0 hb);clear hb hbox hg;obtain⟨_,_,_,_,_,_,_,_,_,_,_,_⟩:=cells6_ BK119.out)|((with_reducible refine gate_callee (f:=153) rfl ?_);refine goesR_ 8 Tryz.func153 #[.agg #[.int .i64 a0_0,.int .i64 a0_1,.int .i64 a0_2,.int .i64 a0_3,.int .i64 a0_4,.int .i64 a0_5]] (spec_CivilOk.calls a0_0 a0_1 a0_2 a0_3 a0_4 a0_5 t120 _ A2.out) ?_;rintro w6 hb;replace BK119:=Aside0.mk (blk_below zz69 hb);replace HB:=Aside0.mk (below_step zz41 hb);(try clear hb)))
 (try simp only[Act.put,List.setIfInBounds_toArray,List.set_cons_zero,List.set_cons_succ]);have H:=HC3.out;clear HC3
 by_cases c7:t120=true
 ·subst c7;rw[if_pos rfl]at H;have H':=Aside0.mk H;clear H;obtain⟨_,_,_,_,_,_,_,_,_,_,_,_⟩:=cells6_ BK119.out;go_wp2
  go_loopg [4,5] k (fun kq v4 v5 w'=> ∃(x4_1 x5_1:Int),v4= .int .i64 x4_1∧v5= .int .i64 x5_1∧Aside0 (spec_SecondsOf.l0 kq x4_1 x5_1 a0_0 a0_1 a0_2 a0_3 a0_4 a0_5=some (r1,r2))∧Aside0 (kq≤k)∧Aside0 (w'.heap[gb119]?=some (.cells #[.int .i64 a0_0,.int .i64 a0_1,.int .i64 a0_2,.int .i64 a0_3,.int .i64 a0_4,.int .i64 a0_5] 120 (0,0)))∧Aside0 (Below w.heap.size w w'))
  case atStart=>exact⟨(wrap64 (a0_2-1)),(1970),zz3,zz3,H',⟨Nat.le_refl _⟩,⟨zz69⟩,⟨zz41⟩⟩
  case round=>
   clear H';(try clear c1);(try clear p2);(try clear p6);(try clear c7);(try clear hcz5_0);(try clear hcz5_1);(try clear hcz5_2);(try clear hcz5_3);(try clear hcz5_4);(try clear hcz5_5);(try clear hcz8_0);(try clear hcz8_1);(try clear hcz8_2);(try clear hcz8_3);(try clear hcz8_4);(try clear hcz8_5);(try clear hfz5_0);(try clear hfz5_1);(try clear hfz5_2);(try clear hfz5_3);(try clear hfz5_4);(try clear hfz5_5);(try clear hfz8_0);(try clear hfz8_1);(try clear hfz8_2);(try clear hfz8_3);(try clear hfz8_4);(try clear hfz8_5);obtain⟨x4_1,x5_1,rfl,rfl,HA,HK1,BK119,HB⟩:=hrel
   cases gk with
   |zero=>exact absurd HA.out (by simp[spec_SecondsOf.l0])
   |succ k1=>
    have H:=HA.out;clear HA;simp only[spec_SecondsOf.l0]at H
    by_cases c9:x5_1<a0_0
    ·rw[if_pos c9]at H;have c9b0:decide (x5_1<a0_0)=true:=decide_eq_true c9;clear c9;(first|rw[c9b0]|(simp only[i64_w,i32_w];rw[c9b0])|skip);replace H:=Option.bind_eq_some_iff.mp H;obtain⟨t121,A100,H⟩:=H;(try dsimp only at H);have A10:=Aside0.mk A100;clear A100;have H':=Aside0.mk H;clear H;obtain⟨_,_,_,_,_,_,_,_,_,_,_,_⟩:=cells6_ BK119.out;go_wp2_with (first|((with_reducible refine gate_callee (f:=154) rfl ?_);refine goesR_ 21 Tryz.func154 #[.int .i64 x5_1] (spec_l2year.calls x5_1 t121 _ A10.out) ?_;rintro w' ⟨nd,rfl⟩))
     go_roundg k1
     (case measure=>have:=HK1.out;omega);case rel=>exact⟨(wrap64 (x4_1+t121)),(wrap64 (x5_1+1)),zz3,zz3,H',⟨zz72⟩,⟨zz69⟩,⟨zz41⟩⟩
    ·rw[if_neg c9]at H;have c9b0:decide (x5_1<a0_0)=false:=decide_eq_false c9;clear c9;(first|rw[c9b0]|(simp only[i64_w,i32_w];rw[c9b0])|skip);have H':=Aside0.mk H;clear H;obtain⟨_,_,_,_,_,_,_,_,_,_,_,_⟩:=cells6_ BK119.out;go_wp2
     go_loopg [4,6] k1 (fun kq v4 v6 w'=> ∃(x4_2 x6_2:Int),v4= .int .i64 x4_2∧v6= .int .i64 x6_2∧Aside0 (spec_SecondsOf.l1 kq x4_2 x6_2 a0_0 a0_1 a0_2 a0_3 a0_4 a0_5=some (r1,r2))∧Aside0 (kq≤k1)∧Aside0 (w'.heap[gb119]?=some (.cells #[.int .i64 a0_0,.int .i64 a0_1,.int .i64 a0_2,.int .i64 a0_3,.int .i64 a0_4,.int .i64 a0_5] 120 (0,0)))∧Aside0 (Below w.heap.size w w'))
     case atStart=>exact⟨(x4_1),(1),zz3,zz3,H',⟨Nat.le_refl _⟩,⟨zz69⟩,⟨zz41⟩⟩
     case round=>
      clear H';(try clear c1);(try clear p2);(try clear p6);(try clear c7);(try clear c9);(try clear c9b0);(try clear c12);(try clear hcz11_0);(try clear hcz11_1);(try clear hcz11_2);(try clear hcz11_3);(try clear hcz11_4);(try clear hcz11_5);(try clear hcz12_0);(try clear hcz12_1);(try clear hcz12_2);(try clear hcz12_3);(try clear hcz12_4);(try clear hcz12_5);(try clear hcz5_0);(try clear hcz5_1);(try clear hcz5_2);(try clear hcz5_3);(try clear hcz5_4);(try clear hcz5_5);(try clear hcz8_0);(try clear hcz8_1);(try clear hcz8_2);(try clear hcz8_3);(try clear hcz8_4);(try clear hcz8_5);(try clear hfz11_0);(try clear hfz11_1);(try clear hfz11_2);(try clear hfz11_3);(try clear hfz11_4);(try clear hfz11_5);(try clear hfz12_0);(try clear hfz12_1);(try clear hfz12_2);(try clear hfz12_3);(try clear hfz12_4);(try clear hfz12_5);(try clear hfz5_0);(try clear hfz5_1);(try clear hfz5_2);(try clear hfz5_3);(try clear hfz5_4);(try clear hfz5_5);(try clear hfz8_0);(try clear hfz8_1);(try clear hfz8_2);(try clear hfz8_3);(try clear hfz8_4);(try clear hfz8_5);(try clear p2);(try clear p6);obtain⟨x4_2,x6_2,rfl,rfl,HA,HK2,BK119,HB⟩:=hrel
      cases gk with
      |zero=>exact absurd HA.out (by simp[spec_SecondsOf.l1])
      |succ k2=>
       have H:=HA.out;clear HA;simp only[spec_SecondsOf.l1]at H
       by_cases c13:x6_2<a0_1
       ·rw[if_pos c13]at H;have c13b0:decide (x6_2<a0_1)=true:=decide_eq_true c13;clear c13;replace H:=Option.bind_eq_some_iff.mp H;obtain⟨t122,A140,H⟩:=H;(try dsimp only at H);have A14:=Aside0.mk A140;clear A140;have H':=Aside0.mk H;clear H;obtain⟨_,_,_,_,_,_,_,_,_,_,_,_⟩:=cells6_ BK119.out;go_wp2_with (first|((with_reducible refine gate_callee (f:=155) rfl ?_);refine goesR_ 33 Tryz.func155 #[.int .i64 a0_0,.int .i64 x6_2] (spec_l2days.calls a0_0 x6_2 t122 _ A14.out) ?_;rintro w' ⟨nd,rfl⟩))
        go_roundg k2
        (case measure=>have:=HK1.out;have:=HK2.out;omega);case rel=>exact⟨(wrap64 (x4_2+t122)),(wrap64 (x6_2+1)),zz3,zz3,H',⟨by have:=HK1.out;have:=HK2.out;omega⟩,⟨zz69⟩,⟨zz41⟩⟩
       ·rw[if_neg c13]at H;have c13b0:decide (x6_2<a0_1)=false:=decide_eq_false c13;clear c13;simp only[Option.some.injEq,Prod.mk.injEq]at H;obtain⟨rfl,rfl⟩:=H;obtain⟨_,_,_,_,_,_,_,_,_,_,_,_⟩:=cells6_ BK119.out;go_wp2
        go_ret2
        exact⟨zz2,zz41⟩
 ·replace c7:=Bool.eq_false_iff.mpr c7;subst c7;rw[if_neg Bool.false_ne_true]at H;simp only[Option.some.injEq,Prod.mk.injEq]at H;obtain⟨rfl,rfl⟩:=H;go_wp2
  go_ret2
  exact⟨zz2,zz41⟩
def spec_l2at.f (k:Nat) (a0 a1 a2:Int) (a3:ByteArray):Option (Int):=if 0≤2 then(if 2≤(a3.size:Int)then((spec_l2num.f k (a3.extract 0 2)).bind fun t123=>(if 3≤5 then(if 5≤(a3.size:Int)then((spec_l2num.f k (a3.extract 3 5)).bind fun t124=>(if 6≤8 then(if 8≤(a3.size:Int)then((spec_l2num.f k (a3.extract 6 8)).bind fun t125=>((spec_SecondsOf.f k a0 a1 a2 t123 t124 t125).bind fun bt126=>(if bt126.2=true then(some bt126.1)else(some (-1)))))else(none))else(none)))else(none))else(none)))else(none))else(none)
def spec_l2at.T1:Bool×List (List Nat×List Nat):=(true,[([],[]),([],[]),([],[]),([],[]),([3],[3]),([4],[4]),([],[]),([6],[6]),([7,5],[7]),([],[]),([9],[9]),([10,8],[10]),([0,1,2,5,8,11],[0,1,2,5,8,11]),([12,11],[12]),([13],[13]),([14],[14]),([14],[14]),([15,13,0,1,2,3,4,5,6,7,8,9,10,11,12,13,14,15],[15]),([16,17,0,1,2,3,4,5,6,7,8,9,10,11,12,13,14,15,16,17],[16])])
def spec_l2at.B1:List Nat:= [0,0,0,0,8,24,0,64,248,0,512,2040,4095,8191,16383,32767,32767,65535,262143]
theorem spec_l2at.tab1:rtab .any (opsOf Tryz.f97 1)=spec_l2at.T1:=by kernel_rfl
theorem spec_l2at.bits1:waitsOk spec_l2at.T1.2 spec_l2at.B1=true:=by kernel_rfl
theorem spec_l2at.calls (k:Nat) (a0 a1 a2:Int) (a3:ByteArray) (r:Int) (w:World) (h:spec_l2at.f k a0 a1 a2 a3=some r):
  Calls Tryz.prog 97 #[.int .i64 a0,.int .i64 a1,.int .i64 a2,.string a3] w fun e w'=>e= .returned (.int .i64 r)∧Below w.heap.size w w':=by
 have hu120:=Tryz.underlying120;have HB:=Aside0.mk (Below.refl w.heap.size w);have H:(if 0≤2 then(if 2≤(a3.size:Int)then((spec_l2num.f k (a3.extract 0 2)).bind fun t123=>(if 3≤5 then(if 5≤(a3.size:Int)then((spec_l2num.f k (a3.extract 3 5)).bind fun t124=>(if 6≤8 then(if 8≤(a3.size:Int)then((spec_l2num.f k (a3.extract 6 8)).bind fun t125=>((spec_SecondsOf.f k a0 a1 a2 t123 t124 t125).bind fun bt126=>(if bt126.2=true then(some bt126.1)else(some (-1)))))else(none))else(none)))else(none))else(none)))else(none))else(none))=some r:=h;clear h
 by_cases c5:0≤2
 ·rw[if_pos c5]at H;have c5b0:=eq_true c5;have c5b1:decide (0≤2)=true:=decide_eq_true c5;clear c5
  by_cases c6:2≤(a3.size:Int)
  ·rw[if_pos c6]at H;have c6b0:=eq_true c6;have c6b1:decide (2≤(a3.size:Int))=true:=decide_eq_true c6;clear c6;replace H:=Option.bind_eq_some_iff.mp H;obtain⟨t123,A70,H⟩:=H;(try dsimp only at H);have A7:=Aside0.mk A70;clear A70
   by_cases c8:3≤5
   ·rw[if_pos c8]at H;have c8b0:=eq_true c8;have c8b1:decide (3≤5)=true:=decide_eq_true c8;clear c8
    by_cases c9:5≤(a3.size:Int)
    ·rw[if_pos c9]at H;have c9b0:=eq_true c9;have c9b1:decide (5≤(a3.size:Int))=true:=decide_eq_true c9;clear c9;replace H:=Option.bind_eq_some_iff.mp H;obtain⟨t124,A100,H⟩:=H;(try dsimp only at H);have A10:=Aside0.mk A100;clear A100
     by_cases c11:6≤8
     ·rw[if_pos c11]at H;have c11b0:=eq_true c11;have c11b1:decide (6≤8)=true:=decide_eq_true c11;clear c11
      by_cases c12:8≤(a3.size:Int)
      ·rw[if_pos c12]at H;have c12b0:=eq_true c12;have c12b1:decide (8≤(a3.size:Int))=true:=decide_eq_true c12;clear c12;replace H:=Option.bind_eq_some_iff.mp H;obtain⟨t125,A130,H⟩:=H;(try dsimp only at H);have A13:=Aside0.mk A130;clear A130;replace H:=Option.bind_eq_some_iff.mp H;obtain⟨⟨t126,t127⟩,A140,H⟩:=H;(try dsimp only at H);have A14:=Aside0.mk A140;clear A140;have HC15:=Aside0.mk H;clear H;go_enter Tryz.func97,Tryz.ntmps97
       (try go_wp2);have n0_:=Aside0.mk (below_drew1 HB.out);clear HB;have HB:=n0_;clear n0_;refine st_ (n:=19) (S:=fun w'=>True) (ds:= []) trivial (fun hHeld=>?_);refine with_tabW spec_l2at.tab1 spec_l2at.bits1 (fun HT_ HW_=>?_);generalize w.drew=w16 at HB hHeld ⊢;refine pz 0 12 ?_;refine pz 1 13 ?_;refine pz 2 14 ?_;refine pz 3 15 ?_;refine pz 4 16 ?_;refine pz 6 18 ?_;refine pz 7 19 ?_;refine pz 9 21 ?_;refine pz 10 22 ?_;refine ozZ 5 17 Tryz.func98 #[.string (a3.extract 0 2)] (spec_l2num.calls k (a3.extract 0 2) t123 _ A7.out) (fun K hK=>?_);rintro w' ⟨nd,rfl⟩;refine hK.out _ _ trivial (fun hHeld=>?_);clear hK K;refine nz ?_;refine ozZ 8 20 Tryz.func98 #[.string (a3.extract 3 5)] (spec_l2num.calls k (a3.extract 3 5) t124 _ A10.out) (fun K hK=>?_);rintro w' ⟨nd,rfl⟩;refine hK.out _ _ trivial (fun hHeld=>?_);clear hK K;refine nz ?_;refine ozZ 11 23 Tryz.func98 #[.string (a3.extract 6 8)] (spec_l2num.calls k (a3.extract 6 8) t125 _ A13.out) (fun K hK=>?_);rintro w' ⟨nd,rfl⟩;refine hK.out _ _ trivial (fun hHeld=>?_);clear hK K;refine nz ?_;refine pz 12 24 ?_;refine ozZ 13 25 Tryz.func127 #[.agg #[.int .i64 a0,.int .i64 a1,.int .i64 a2,.int .i64 t123,.int .i64 t124,.int .i64 t125]] (spec_SecondsOf.calls k a0 a1 a2 t123 t124 t125 t126 t127 _ A14.out) (fun K hK=>?_);rintro w17 hb;have n0_:=Aside0.mk (below_step zz0 hb);clear HB;have HB:=n0_;clear n0_;(try clear hb);(try clear hb2);(try clear hk);(try clear hi);refine hK.out _ _ trivial (fun hHeld=>?_);clear hK K;refine nz ?_;refine pz 14 11 ?_;refine pz 15 26 ?_;refine pz 16 27 ?_;refine pz 17 9 ?_;refine pz 18 10 ?_;refine done_ (done_of HT_.out (by kernel_rfl)) ?_;go_upto_if 29 with(fail)
       have H:=HC15.out;clear HC15
       by_cases c18:t127=true
       ·subst c18;rw[if_pos rfl]at H;obtain rfl:=Option.some.inj H;go_wp2
        go_ret;exact⟨zz2,zz0⟩
       ·replace c18:=Bool.eq_false_iff.mpr c18;subst c18;rw[if_neg Bool.false_ne_true]at H;obtain rfl:=Option.some.inj H;go_wp2
        go_ret;exact⟨zz2,zz0⟩
      ·rw[if_neg c12]at H;exact absurd H (by simp)
     ·rw[if_neg c11]at H;exact absurd H (by simp)
    ·rw[if_neg c9]at H;exact absurd H (by simp)
   ·rw[if_neg c8]at H;exact absurd H (by simp)
  ·rw[if_neg c6]at H;exact absurd H (by simp)
 ·rw[if_neg c5]at H;exact absurd H (by simp)
def spec_l2time.f (a0:Int):Option (Bool):=if a0≥0 then(some (decide (a0≤253402300799)))else(some false)
theorem spec_l2time.calls (a0:Int) (r:Bool) (w:World) (h:spec_l2time.f a0=some r):
  Calls Tryz.prog 156 #[.int .i64 a0] w fun e w'=>e= .returned (.bool r)∧Drawn0 w w':=by
 have H:(if a0≥0 then(some (decide (a0≤253402300799)))else(some false))=some r:=h;clear h
 by_cases c2:a0≥0
 ·rw[if_pos c2]at H;have c2b0:decide (0≤a0)=true:=decide_eq_true c2;clear c2;obtain rfl:=Option.some.inj H;go_enter Tryz.func156,Tryz.ntmps156
  go_wp2
  go_ret;exact⟨zz3,zz5⟩
 ·rw[if_neg c2]at H;have c2b0:decide (0≤a0)=false:=decide_eq_false c2;clear c2;obtain rfl:=Option.some.inj H;go_enter Tryz.func156,Tryz.ntmps156
  go_wp2
  go_ret;exact⟨zz3,zz5⟩
end Go.Proofs.YtnilblnhlpnpgaaGreatDoor.GFnExactGrammar
