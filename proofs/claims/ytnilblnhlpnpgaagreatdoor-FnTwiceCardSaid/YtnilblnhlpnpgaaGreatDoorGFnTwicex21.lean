-- Printed by gen.py and its programs for this claim.
import Derived.Test.YtnilblnhlpnpgaaGreatDoorGFnTwicex0
import Derived.Test.YtnilblnhlpnpgaaGreatDoorGFnTwicex15
import Derived.Test.YtnilblnhlpnpgaaGreatDoorGFnTwicex19
import Derived.Test.YtnilblnhlpnpgaaGreatDoorGFnTwicex20
import Derived.Test.YtnilblnhlpnpgaaGreatDoorZFnTwice
namespace Go.Proofs.YtnilblnhlpnpgaaGreatDoor.GFnTwice
open Go.RowKit Go.Proofs.YtnilblnhlpnpgaaGreatDoorW.PrintWords Go.Proofs.YtnilblnhlpnpgaaGreatDoorW.PrintLast Go.Proofs.YtnilblnhlpnpgaaGreatDoorW.PrintMore Go.Proofs.YtnilblnhlpnpgaaGreatDoorW.Zs
set_option maxHeartbeats 40000000
set_option maxRecDepth 100000
attribute [local go_sem] max2_int min2_int max_two min_two max_three min_three max_four min_four
set_option linter.unusedVariables false
set_option linter.unusedSimpArgs false
def spec_l6framed.l0:Nat→List (S82)→Int→Option (Bool)
 |0,_,_=>none
 |k+1,x0,x3=>if x3<(x0.length:Int)then(if 0≤x3 then((spec_Fold.f ((rd_T82 x0 x3).f0)).bind fun t570=>(if t570.toList=([99,111,110,116,101,110,116,45,108,101,110,103,116,104]:List UInt8)then(some true)else(if t570.toList=([116,114,97,110,115,102,101,114,45,101,110,99,111,100,105,110,103]:List UInt8)then(some true)else(if t570.toList=([116,114,97,105,108,101,114]:List UInt8)then(some true)else(spec_l6framed.l0 k x0 (wrap64 (x3+1)))))))else(none))else(some false)
def spec_l6framed.f (k:Nat) (l0:List (S82)):Option (Bool):=spec_l6framed.l0 k l0 0
theorem spec_l6framed.calls (k:Nat) (A0:Option Addr) (c0:Nat) (l0:List (S82)) (r:Bool) (w:World) (hr0:Kd.C k82 w A0 l0.length l0) (hc0:l0.length≤c0) (h:spec_l6framed.f k l0=some r):
  Calls Tryz.prog 38 #[.slice A0 l0.length c0] w fun e w'=>e= .returned (.bool r)∧Below w.heap.size w w':=by
 have HR0:=Aside0.mk hr0;have HC0:=Aside0.mk hc0;clear hr0 hc0;have HB:=Aside0.mk (Below.refl w.heap.size w);have H:(spec_l6framed.l0 k l0 0)=some r:=h;clear h;have H':=Aside0.mk H;clear H;go_enter Tryz.func38,Tryz.ntmps38
 go_wp2
 go_loopg [3] k (fun kq v3 w'=> ∃(x3_1:Int),v3= .int .i64 x3_1∧Aside0 (spec_l6framed.l0 kq l0 x3_1=some r)∧Aside0 (kq≤k)∧Aside0 (Below w.heap.size w w'))
 case atStart=>exact⟨(0),zz4,H',⟨Nat.le_refl _⟩,⟨zz0⟩⟩
 case round=>
  clear H';obtain⟨x3_1,rfl,HA,HK1,HB⟩:=hrel
  cases gk with
  |zero=>exact absurd HA.out (by simp[spec_l6framed.l0])
  |succ k1=>
   have H:=HA.out;clear HA;simp only[spec_l6framed.l0]at H
   by_cases c2:x3_1<(l0.length:Int)
   ·rw[if_pos c2]at H;have c2b0:decide (x3_1<(l0.length:Int))=true:=decide_eq_true c2;clear c2
    by_cases c3:0≤x3_1
    ·rw[if_pos c3]at H;have c3b0:decide (0≤x3_1)=true:=decide_eq_true c3;clear c3;replace H:=Option.bind_eq_some_iff.mp H;obtain⟨t570,A40,H⟩:=H;(try dsimp only at H);have A4:=Aside0.mk A40;clear A40;have HC5:=Aside0.mk H;clear H;have p569:0≤(x3_1:Int):=of_decide_eq_true zz16;have q569:x3_1<(l0.length:Int):=of_decide_eq_true zz16;obtain⟨ad569,e569,W569⟩:=at_T82 HR0.out x3_1 p569 q569;cases e569;obtain⟨hx569_0,hx569_1⟩:=El82.up HB.out W569;replace p569:=eq_true p569;replace q569:=eq_true q569
     repeat' (first|(go_big_may;(first|((with_reducible refine gate_callee (f:=49) rfl ?_);refine goesR_ 16 Tryz.func49 #[.string ((rd_T82 l0 x3_1).f0)] (spec_Fold.calls ((rd_T82 l0 x3_1).f0) t570 _ A4.out) ?_;rintro w6 hb;replace HB:=Aside0.mk (below_step zz0 hb);(try clear hb))))|go_values|go_skip|go_big_skip|go_big_want|((first|(with_reducible refine gate_nog rfl ?_)|(fail_if_success with_reducible refine gate_any ?_));go_step)|go_upon|simp only[Bool.not_true,Bool.not_false,Bool.true_and,Bool.false_and,Bool.true_or,Bool.false_or]|dsimp only)
     (try simp only[Act.put,List.setIfInBounds_toArray,List.set_cons_zero,List.set_cons_succ]);have H:=HC5.out;clear HC5
     by_cases c7:t570.toList=([99,111,110,116,101,110,116,45,108,101,110,103,116,104]:List UInt8)
     ·rw[if_pos c7]at H;have c7b0:(t570.toList==([99,111,110,116,101,110,116,45,108,101,110,103,116,104]:List UInt8))=true:=beq_iff_eq.mpr c7;have c7b1:(t570.toList !=([99,111,110,116,101,110,116,45,108,101,110,103,116,104]:List UInt8))=false:=bne_eq_false_iff_eq.mpr c7;clear c7;(first|rw[c7b0]|(simp only[i64_w,i32_w];rw[c7b0])|rw[c7b1]|(rw[c7b2];simp only[Bool.not_true,Bool.not_false])|skip);obtain rfl:=Option.some.inj H;go_wp2
      go_ret;exact⟨zz1,zz0⟩
     ·rw[if_neg c7]at H;have c7b0:(t570.toList==([99,111,110,116,101,110,116,45,108,101,110,103,116,104]:List UInt8))=false:=beq_eq_false_iff_ne.mpr c7;have c7b1:(t570.toList !=([99,111,110,116,101,110,116,45,108,101,110,103,116,104]:List UInt8))=true:=bne_iff_ne.mpr c7;(first|rw[c7b0]|(simp only[i64_w,i32_w];rw[c7b0])|rw[c7b1]|(rw[c7b2];simp only[Bool.not_true,Bool.not_false])|skip)
      by_cases c8:t570.toList=([116,114,97,110,115,102,101,114,45,101,110,99,111,100,105,110,103]:List UInt8)
      ·rw[if_pos c8]at H;have c8b0:(t570.toList==([116,114,97,110,115,102,101,114,45,101,110,99,111,100,105,110,103]:List UInt8))=true:=beq_iff_eq.mpr c8;have c8b1:(t570.toList !=([116,114,97,110,115,102,101,114,45,101,110,99,111,100,105,110,103]:List UInt8))=false:=bne_eq_false_iff_eq.mpr c8;clear c8;obtain rfl:=Option.some.inj H;go_wp2
       go_ret;exact⟨zz1,zz0⟩
      ·rw[if_neg c8]at H;have c8b0:(t570.toList==([116,114,97,110,115,102,101,114,45,101,110,99,111,100,105,110,103]:List UInt8))=false:=beq_eq_false_iff_ne.mpr c8;have c8b1:(t570.toList !=([116,114,97,110,115,102,101,114,45,101,110,99,111,100,105,110,103]:List UInt8))=true:=bne_iff_ne.mpr c8
       by_cases c9:t570.toList=([116,114,97,105,108,101,114]:List UInt8)
       ·rw[if_pos c9]at H;have c9b0:(t570.toList==([116,114,97,105,108,101,114]:List UInt8))=true:=beq_iff_eq.mpr c9;have c9b1:(t570.toList !=([116,114,97,105,108,101,114]:List UInt8))=false:=bne_eq_false_iff_eq.mpr c9;clear c9;obtain rfl:=Option.some.inj H;go_wp2
        go_ret;exact⟨zz1,zz0⟩
       ·rw[if_neg c9]at H;have c9b0:(t570.toList==([116,114,97,105,108,101,114]:List UInt8))=false:=beq_eq_false_iff_ne.mpr c9;have c9b1:(t570.toList !=([116,114,97,105,108,101,114]:List UInt8))=true:=bne_iff_ne.mpr c9;have H':=Aside0.mk H;clear H;go_wp2
        go_roundg k1
        (case measure=>have:=HK1.out;omega);case rel=>exact⟨(wrap64 (x3_1+1)),zz4,H',⟨zz119⟩,⟨zz0⟩⟩
    ·rw[if_neg c3]at H;exact absurd H (by simp)
   ·rw[if_neg c2]at H;have c2b0:decide (x3_1<(l0.length:Int))=false:=decide_eq_false c2;clear c2;obtain rfl:=Option.some.inj H;go_wp2
    go_ret;exact⟨zz1,zz0⟩
def spec_l6visible.l0:Nat→ByteArray→Int→Option (Bool)
 |0,_,_=>none
 |k+1,x0,x3=>if x3<(x0.size:Int)then(if 0≤x3 then(if(bt x0 x3)<33 then(some false)else(if(bt x0 x3)>126 then(some false)else(spec_l6visible.l0 k x0 (wrap64 (x3+1)))))else(none))else(some (decide ((x0.size:Int)>0)))
def spec_l6visible.f (k:Nat) (a0:ByteArray):Option (Bool):=spec_l6visible.l0 k a0 0
theorem spec_l6visible.calls (k:Nat) (a0:ByteArray) (r:Bool) (w:World) (h:spec_l6visible.f k a0=some r):
  Calls Tryz.prog 79 #[.string a0] w fun e w'=>e= .returned (.bool r)∧Drawn0 w w':=by
 have H:(spec_l6visible.l0 k a0 0)=some r:=h;clear h;have H':=Aside0.mk H;clear H;go_enter Tryz.func79,Tryz.ntmps79
 go_wp2
 go_loopg [3] k (fun kq v3 w'=> ∃(x3_1:Int),v3= .int .i64 x3_1∧Aside0 (spec_l6visible.l0 kq a0 x3_1=some r)∧Aside0 (kq≤k)∧Drawn0 w w')
 case atStart=>exact⟨(0),zz4,H',⟨Nat.le_refl _⟩,zz7⟩
 case round=>
  clear H';obtain⟨x3_1,rfl,HA,HK1,⟨m1,rfl⟩⟩:=hrel
  cases gk with
  |zero=>exact absurd HA.out (by simp[spec_l6visible.l0])
  |succ k1=>
   have H:=HA.out;clear HA;simp only[spec_l6visible.l0]at H
   by_cases c2:x3_1<(a0.size:Int)
   ·rw[if_pos c2]at H;have c2b0:decide (x3_1<(a0.size:Int))=true:=decide_eq_true c2;clear c2
    by_cases c3:0≤x3_1
    ·rw[if_pos c3]at H;have c3b0:decide (0≤x3_1)=true:=decide_eq_true c3;clear c3;have HC5:=Aside0.mk H;clear H;have p4:0≤(x3_1:Int):=of_decide_eq_true zz16;have q4:x3_1<(a0.size:Int):=of_decide_eq_true zz16;have hx4:=bt_at a0 x3_1;replace p4:=eq_true p4;replace q4:=eq_true q4
     repeat' (first|(go_big_may;(fail))|go_values|go_skip|go_big_skip|go_big_want|((first|(with_reducible refine gate_nog rfl ?_)|(fail_if_success with_reducible refine gate_any ?_));go_step)|go_upon|simp only[Bool.not_true,Bool.not_false,Bool.true_and,Bool.false_and,Bool.true_or,Bool.false_or]|dsimp only)
     have H:=HC5.out;clear HC5
     by_cases c6:(bt a0 x3_1)<33
     ·rw[if_pos c6]at H;have c6b0:decide ((bt a0 x3_1)<33)=true:=decide_eq_true c6;clear c6;(first|rw[c6b0]|(simp only[i64_w,i32_w];rw[c6b0])|skip);obtain rfl:=Option.some.inj H;go_wp2
      go_ret;exact⟨zz4,zz7⟩
     ·rw[if_neg c6]at H;have c6b0:decide ((bt a0 x3_1)<33)=false:=decide_eq_false c6;clear c6;(first|rw[c6b0]|(simp only[i64_w,i32_w];rw[c6b0])|skip)
      by_cases c8:(bt a0 x3_1)>126
      ·rw[if_pos c8]at H;have c8b0:decide (126<(bt a0 x3_1))=true:=decide_eq_true c8;clear c8;obtain rfl:=Option.some.inj H;have p7:0≤(x3_1:Int):=of_decide_eq_true zz16;have q7:x3_1<(a0.size:Int):=of_decide_eq_true zz16;have hx7:=bt_at a0 x3_1;replace p7:=eq_true p7;replace q7:=eq_true q7;go_wp2
       go_ret;exact⟨zz4,zz7⟩
      ·rw[if_neg c8]at H;have c8b0:decide (126<(bt a0 x3_1))=false:=decide_eq_false c8;clear c8;have H':=Aside0.mk H;clear H;have p7:0≤(x3_1:Int):=of_decide_eq_true zz16;have q7:x3_1<(a0.size:Int):=of_decide_eq_true zz16;have hx7:=bt_at a0 x3_1;replace p7:=eq_true p7;replace q7:=eq_true q7;go_wp2
       go_roundg k1
       (case measure=>have:=HK1.out;omega);case rel=>exact⟨(wrap64 (x3_1+1)),zz4,H',⟨zz119⟩,zz7⟩
    ·rw[if_neg c3]at H;exact absurd H (by simp)
   ·rw[if_neg c2]at H;have c2b0:decide (x3_1<(a0.size:Int))=false:=decide_eq_false c2;clear c2;obtain rfl:=Option.some.inj H;go_wp2
    go_ret;exact⟨zz4,zz7⟩
def spec_l6request.f (k:Nat) (a0_0 a0_1:ByteArray) (a0_2:Int) (a0_3:ByteArray) (a0_4:Bool) (l0_5:List (S82)) (a0_6:ByteArray):Option (Bool):=if(a0_0.size:Int)≤20 then((spec_Token.f k a0_0).bind fun t572=>(if t572=true then(if(a0_1.size:Int)≤200 then((spec_l6visible.f k a0_1).bind fun t573=>(if t573=true then(if a0_2=0 then(if a0_3.toList=([]:List UInt8)then(some (!a0_4))else(some false))else(some false))else(some false)))else(some false))else(some false)))else(some false)
theorem spec_l6request.calls (k:Nat) (a0_0 a0_1:ByteArray) (a0_2:Int) (a0_3:ByteArray) (a0_4:Bool) (A0_5:Option Addr) (c0_5:Nat) (l0_5:List (S82)) (a0_6:ByteArray) (r:Bool) (w:World) (hr0_5:Kd.C k82 w A0_5 l0_5.length l0_5) (hc0_5:l0_5.length≤c0_5) (h:spec_l6request.f k a0_0 a0_1 a0_2 a0_3 a0_4 l0_5 a0_6=some r):
  Calls Tryz.prog 39 #[.agg #[.string a0_0,.string a0_1,.int .i64 a0_2,.string a0_3,.bool a0_4,.slice A0_5 l0_5.length c0_5,.string a0_6]] w fun e w'=>e= .returned (.bool r)∧Below w.heap.size w w':=by
 have hu34:=Tryz.underlying34;have HR0_5:=Aside0.mk hr0_5;have HC0_5:=Aside0.mk hc0_5;clear hr0_5 hc0_5;have HB:=Aside0.mk (Below.refl w.heap.size w);have H:(if(a0_0.size:Int)≤20 then((spec_Token.f k a0_0).bind fun t572=>(if t572=true then(if(a0_1.size:Int)≤200 then((spec_l6visible.f k a0_1).bind fun t573=>(if t573=true then(if a0_2=0 then(if a0_3.toList=([]:List UInt8)then(some (!a0_4))else(some false))else(some false))else(some false)))else(some false))else(some false)))else(some false))=some r:=h;clear h;have HC2:=Aside0.mk H;clear H;go_enter Tryz.func39,Tryz.ntmps39
 repeat' (first|(go_big_may;(first|((with_reducible refine gate_dst (N:=1) rfl ?_);(try(refine gate_guard (by rfl) ?_;dsimp only));refine boxP_ (N:=1) (cs:= #[.string a0_0,.string a0_1,.int .i64 a0_2,.string a0_3,.bool a0_4,.slice A0_5 l0_5.length c0_5,.string a0_6]) (t:=34) ?_;intro gb571 hg w3 hbox hb;have BK571:=Aside0.mk (hbox);have GE571:=geb_ (w:=w) hg zz0;replace HB:=Aside0.mk (below_step zz0 hb);clear hb hbox hg;obtain⟨_,_,_,_,_,_,_,_,_,_,_,_,_,_⟩:=cells7_ BK571.out)))|go_values|go_skip|go_big_skip|go_big_want|((first|(with_reducible refine gate_nog rfl ?_)|(fail_if_success with_reducible refine gate_any ?_));go_step)|go_upon|simp only[Bool.not_true,Bool.not_false,Bool.true_and,Bool.false_and,Bool.true_or,Bool.false_or]|dsimp only)
 (try simp only[Act.put,List.setIfInBounds_toArray,List.set_cons_zero,List.set_cons_succ]);have H:=HC2.out;clear HC2
 by_cases c5:(a0_0.size:Int)≤20
 ·rw[if_pos c5]at H;have c5b0:decide ((a0_0.size:Int)≤20)=true:=decide_eq_true c5;have c5b1:decide (a0_0.size≤20)=true:=decide_eq_true (by omega);clear c5;(first|rw[c5b0]|(simp only[i64_w,i32_w];rw[c5b0])|rw[c5b1]|(rw[c5b2];simp only[Bool.not_true,Bool.not_false])|skip);replace H:=Option.bind_eq_some_iff.mp H;obtain⟨t572,A60,H⟩:=H;(try dsimp only at H);have A6:=Aside0.mk A60;clear A60;have HC7:=Aside0.mk H;clear H;obtain⟨_,_,_,_,_,_,_,_,_,_,_,_,_,_⟩:=cells7_ BK571.out
  repeat' (first|(go_big_may;(first|(go_at_call 46;(with_reducible refine(spec_Token.calls k a0_0 t572 _ A6.out).mono ?_);rintro e w' ⟨rfl,⟨nd,rfl⟩⟩)))|go_values|go_skip|go_big_skip|go_big_want|((first|(with_reducible refine gate_nog rfl ?_)|(fail_if_success with_reducible refine gate_any ?_));go_step)|go_upon|simp only[Bool.not_true,Bool.not_false,Bool.true_and,Bool.false_and,Bool.true_or,Bool.false_or]|dsimp only)
  (try simp only[Act.put,List.setIfInBounds_toArray,List.set_cons_zero,List.set_cons_succ]);(try(rw[drewN_self w3];generalize hq_:World.drewN w3 _=w3;have n0_:Aside0 (w3.heap[gb571]?=some (.cells #[.string a0_0,.string a0_1,.int .i64 a0_2,.string a0_3,.bool a0_4,.slice A0_5 l0_5.length c0_5,.string a0_6] 34 (0,0))):=⟨zz162⟩;have n1_:Aside0 (Below w.heap.size w w3):=⟨by rw[←hq_];exact zz47⟩;clear BK571 HB hq_;have BK571:=n0_;have HB:=n1_;clear n0_ n1_;have hcu1:w3.cell? ⟨gb571,0,none⟩=some (.string a0_0):=(blk_cell BK571.out 0).trans rfl;have hfu1:=blk_frozen BK571.out 0;have hcu2:w3.cell? ⟨gb571,1,none⟩=some (.string a0_1):=(blk_cell BK571.out 1).trans rfl;have hfu2:=blk_frozen BK571.out 1;have hcu3:w3.cell? ⟨gb571,2,none⟩=some (.int .i64 a0_2):=(blk_cell BK571.out 2).trans rfl;have hfu3:=blk_frozen BK571.out 2;have hcu4:w3.cell? ⟨gb571,3,none⟩=some (.string a0_3):=(blk_cell BK571.out 3).trans rfl;have hfu4:=blk_frozen BK571.out 3;have hcu5:w3.cell? ⟨gb571,4,none⟩=some (.bool a0_4):=(blk_cell BK571.out 4).trans rfl;have hfu5:=blk_frozen BK571.out 4;have hcu6:w3.cell? ⟨gb571,5,none⟩=some (.slice A0_5 l0_5.length c0_5):=(blk_cell BK571.out 5).trans rfl;have hfu6:=blk_frozen BK571.out 5;have hcu7:w3.cell? ⟨gb571,6,none⟩=some (.string a0_6):=(blk_cell BK571.out 6).trans rfl;have hfu7:=blk_frozen BK571.out 6));have H:=HC7.out;clear HC7
  by_cases c9:t572=true
  ·subst c9;rw[if_pos rfl]at H;have HC10:=Aside0.mk H;clear H;obtain⟨_,_,_,_,_,_,_,_,_,_,_,_,_,_⟩:=cells7_ BK571.out
   repeat' (first|(go_big_may;(fail))|go_values|go_skip|go_big_skip|go_big_want|((first|(with_reducible refine gate_nog rfl ?_)|(fail_if_success with_reducible refine gate_any ?_));go_step)|go_upon|simp only[Bool.not_true,Bool.not_false,Bool.true_and,Bool.false_and,Bool.true_or,Bool.false_or]|dsimp only)
   have H:=HC10.out;clear HC10
   by_cases c12:(a0_1.size:Int)≤200
   ·rw[if_pos c12]at H;have c12b0:decide ((a0_1.size:Int)≤200)=true:=decide_eq_true c12;have c12b1:decide (a0_1.size≤200)=true:=decide_eq_true (by omega);clear c12;(first|rw[c12b0]|(simp only[i64_w,i32_w];rw[c12b0])|rw[c12b1]|(rw[c12b2];simp only[Bool.not_true,Bool.not_false])|skip);replace H:=Option.bind_eq_some_iff.mp H;obtain⟨t573,A130,H⟩:=H;(try dsimp only at H);have A13:=Aside0.mk A130;clear A130;have HC14:=Aside0.mk H;clear H;obtain⟨_,_,_,_,_,_,_,_,_,_,_,_,_,_⟩:=cells7_ BK571.out
    repeat' (first|(go_big_may;(first|(go_at_call 79;(with_reducible refine(spec_l6visible.calls k a0_1 t573 _ A13.out).mono ?_);rintro e w' ⟨rfl,⟨nd,rfl⟩⟩)))|go_values|go_skip|go_big_skip|go_big_want|((first|(with_reducible refine gate_nog rfl ?_)|(fail_if_success with_reducible refine gate_any ?_));go_step)|go_upon|simp only[Bool.not_true,Bool.not_false,Bool.true_and,Bool.false_and,Bool.true_or,Bool.false_or]|dsimp only)
    (try simp only[Act.put,List.setIfInBounds_toArray,List.set_cons_zero,List.set_cons_succ]);(try(rw[drewN_self w3];generalize hq_:World.drewN w3 _=w3;have n0_:Aside0 (w3.heap[gb571]?=some (.cells #[.string a0_0,.string a0_1,.int .i64 a0_2,.string a0_3,.bool a0_4,.slice A0_5 l0_5.length c0_5,.string a0_6] 34 (0,0))):=⟨zz162⟩;have n1_:Aside0 (Below w.heap.size w w3):=⟨by rw[←hq_];exact zz47⟩;clear BK571 HB hq_;have BK571:=n0_;have HB:=n1_;clear n0_ n1_;have hcu8:w3.cell? ⟨gb571,0,none⟩=some (.string a0_0):=(blk_cell BK571.out 0).trans rfl;have hfu8:=blk_frozen BK571.out 0;have hcu9:w3.cell? ⟨gb571,1,none⟩=some (.string a0_1):=(blk_cell BK571.out 1).trans rfl;have hfu9:=blk_frozen BK571.out 1;have hcu10:w3.cell? ⟨gb571,2,none⟩=some (.int .i64 a0_2):=(blk_cell BK571.out 2).trans rfl;have hfu10:=blk_frozen BK571.out 2;have hcu11:w3.cell? ⟨gb571,3,none⟩=some (.string a0_3):=(blk_cell BK571.out 3).trans rfl;have hfu11:=blk_frozen BK571.out 3;have hcu12:w3.cell? ⟨gb571,4,none⟩=some (.bool a0_4):=(blk_cell BK571.out 4).trans rfl;have hfu12:=blk_frozen BK571.out 4;have hcu13:w3.cell? ⟨gb571,5,none⟩=some (.slice A0_5 l0_5.length c0_5):=(blk_cell BK571.out 5).trans rfl;have hfu13:=blk_frozen BK571.out 5;have hcu14:w3.cell? ⟨gb571,6,none⟩=some (.string a0_6):=(blk_cell BK571.out 6).trans rfl;have hfu14:=blk_frozen BK571.out 6));have H:=HC14.out;clear HC14
    by_cases c16:t573=true
    ·subst c16;rw[if_pos rfl]at H;have HC17:=Aside0.mk H;clear H;obtain⟨_,_,_,_,_,_,_,_,_,_,_,_,_,_⟩:=cells7_ BK571.out
     repeat' (first|(go_big_may;(fail))|go_values|go_skip|go_big_skip|go_big_want|((first|(with_reducible refine gate_nog rfl ?_)|(fail_if_success with_reducible refine gate_any ?_));go_step)|go_upon|simp only[Bool.not_true,Bool.not_false,Bool.true_and,Bool.false_and,Bool.true_or,Bool.false_or]|dsimp only)
     have H:=HC17.out;clear HC17
     by_cases c19:a0_2=0
     ·rw[if_pos c19]at H;have c19b0:(a0_2==0)=true:=beq_iff_eq.mpr c19;have c19b1:(a0_2 !=0)=false:=bne_eq_false_iff_eq.mpr c19;clear c19;(first|rw[c19b0]|(simp only[i64_w,i32_w];rw[c19b0])|rw[c19b1]|(rw[c19b2];simp only[Bool.not_true,Bool.not_false])|skip);have HC20:=Aside0.mk H;clear H;obtain⟨_,_,_,_,_,_,_,_,_,_,_,_,_,_⟩:=cells7_ BK571.out
      repeat' (first|(go_big_may;(fail))|go_values|go_skip|go_big_skip|go_big_want|((first|(with_reducible refine gate_nog rfl ?_)|(fail_if_success with_reducible refine gate_any ?_));go_step)|go_upon|simp only[Bool.not_true,Bool.not_false,Bool.true_and,Bool.false_and,Bool.true_or,Bool.false_or]|dsimp only)
      have H:=HC20.out;clear HC20
      by_cases c22:a0_3.toList=([]:List UInt8)
      ·rw[if_pos c22]at H;have c22b0:(a0_3.toList==([]:List UInt8))=true:=beq_iff_eq.mpr c22;have c22e:a0_3.toList.isEmpty=true:=by have hz_:=beq_iff_eq.1 c22b0;rw[hz_];rfl
       (try rw[c22e]);have c22b1:(a0_3.toList !=([]:List UInt8))=false:=bne_eq_false_iff_eq.mpr c22;clear c22;(first|rw[c22b0]|(simp only[i64_w,i32_w];rw[c22b0])|rw[c22b1]|(rw[c22b2];simp only[Bool.not_true,Bool.not_false])|skip);obtain rfl:=Option.some.inj H;obtain⟨_,_,_,_,_,_,_,_,_,_,_,_,_,_⟩:=cells7_ BK571.out;go_wp2
       go_ret;exact⟨zz1,zz47⟩
      ·rw[if_neg c22]at H;have c22b0:(a0_3.toList==([]:List UInt8))=false:=beq_eq_false_iff_ne.mpr c22;have c22e:a0_3.toList.isEmpty=false:=by cases hz_:a0_3.toList with|nil=>(rw[hz_]at c22b0;exact absurd c22b0 (by decide))|cons _ _=>rfl
       (try rw[c22e]);have c22b1:(a0_3.toList !=([]:List UInt8))=true:=bne_iff_ne.mpr c22;(first|rw[c22b0]|(simp only[i64_w,i32_w];rw[c22b0])|rw[c22b1]|(rw[c22b2];simp only[Bool.not_true,Bool.not_false])|skip);obtain rfl:=Option.some.inj H;go_wp2
       go_ret;exact⟨zz1,zz47⟩
     ·rw[if_neg c19]at H;have c19b0:(a0_2==0)=false:=beq_eq_false_iff_ne.mpr c19;have c19b1:(a0_2 !=0)=true:=bne_iff_ne.mpr c19;(first|rw[c19b0]|(simp only[i64_w,i32_w];rw[c19b0])|rw[c19b1]|(rw[c19b2];simp only[Bool.not_true,Bool.not_false])|skip);obtain rfl:=Option.some.inj H;go_wp2
      go_ret;exact⟨zz1,zz47⟩
    ·replace c16:=Bool.eq_false_iff.mpr c16;subst c16;rw[if_neg Bool.false_ne_true]at H;obtain rfl:=Option.some.inj H;go_wp2
     go_ret;exact⟨zz1,zz47⟩
   ·rw[if_neg c12]at H;have c12b0:decide ((a0_1.size:Int)≤200)=false:=decide_eq_false c12;have c12b1:decide (a0_1.size≤200)=false:=decide_eq_false (by omega);clear c12;(first|rw[c12b0]|(simp only[i64_w,i32_w];rw[c12b0])|rw[c12b1]|(rw[c12b2];simp only[Bool.not_true,Bool.not_false])|skip);obtain rfl:=Option.some.inj H;go_wp2
    go_ret;exact⟨zz1,zz47⟩
  ·replace c9:=Bool.eq_false_iff.mpr c9;subst c9;rw[if_neg Bool.false_ne_true]at H;obtain rfl:=Option.some.inj H;go_wp2
   go_ret;exact⟨zz1,zz47⟩
 ·rw[if_neg c5]at H;have c5b0:decide ((a0_0.size:Int)≤20)=false:=decide_eq_false c5;have c5b1:decide (a0_0.size≤20)=false:=decide_eq_false (by omega);clear c5;(first|rw[c5b0]|(simp only[i64_w,i32_w];rw[c5b0])|rw[c5b1]|(rw[c5b2];simp only[Bool.not_true,Bool.not_false])|skip);obtain rfl:=Option.some.inj H;go_wp2
  go_ret;exact⟨zz1,zz47⟩
def spec_l6answer.f (k:Nat) (a0_0 a0_1:ByteArray) (a0_2:Int) (a0_3:ByteArray) (a0_4:Bool) (l0_5:List (S82)) (a0_6:ByteArray):Option (Bool):=if a0_1.toList=([]:List UInt8)then(if a0_2<200 then(some false)else(if a0_2>599 then(some false)else(if(a0_3.size:Int)>40 then(some false)else((spec_l5plain.f k a0_3).bind fun t575=>(if t575=true then(if a0_4=true then(if a0_6.toList=([]:List UInt8)then(some true)else(some false))else((spec_l6bare.f a0_2).bind fun t576=>(some (!t576))))else(some false))))))else(some false)
theorem spec_l6answer.calls (k:Nat) (a0_0 a0_1:ByteArray) (a0_2:Int) (a0_3:ByteArray) (a0_4:Bool) (A0_5:Option Addr) (c0_5:Nat) (l0_5:List (S82)) (a0_6:ByteArray) (r:Bool) (w:World) (hr0_5:Kd.C k82 w A0_5 l0_5.length l0_5) (hc0_5:l0_5.length≤c0_5) (h:spec_l6answer.f k a0_0 a0_1 a0_2 a0_3 a0_4 l0_5 a0_6=some r):
  Calls Tryz.prog 40 #[.agg #[.string a0_0,.string a0_1,.int .i64 a0_2,.string a0_3,.bool a0_4,.slice A0_5 l0_5.length c0_5,.string a0_6]] w fun e w'=>e= .returned (.bool r)∧Below w.heap.size w w':=by
 have hu34:=Tryz.underlying34;have HR0_5:=Aside0.mk hr0_5;have HC0_5:=Aside0.mk hc0_5;clear hr0_5 hc0_5;have HB:=Aside0.mk (Below.refl w.heap.size w);have H:(if a0_1.toList=([]:List UInt8)then(if a0_2<200 then(some false)else(if a0_2>599 then(some false)else(if(a0_3.size:Int)>40 then(some false)else((spec_l5plain.f k a0_3).bind fun t575=>(if t575=true then(if a0_4=true then(if a0_6.toList=([]:List UInt8)then(some true)else(some false))else((spec_l6bare.f a0_2).bind fun t576=>(some (!t576))))else(some false))))))else(some false))=some r:=h;clear h;have HC2:=Aside0.mk H;clear H;go_enter Tryz.func40,Tryz.ntmps40
 repeat' (first|(go_big_may;(first|((with_reducible refine gate_dst (N:=1) rfl ?_);(try(refine gate_guard (by rfl) ?_;dsimp only));refine boxP_ (N:=1) (cs:= #[.string a0_0,.string a0_1,.int .i64 a0_2,.string a0_3,.bool a0_4,.slice A0_5 l0_5.length c0_5,.string a0_6]) (t:=34) ?_;intro gb574 hg w3 hbox hb;have BK574:=Aside0.mk (hbox);have GE574:=geb_ (w:=w) hg zz0;replace HB:=Aside0.mk (below_step zz0 hb);clear hb hbox hg;obtain⟨_,_,_,_,_,_,_,_,_,_,_,_,_,_⟩:=cells7_ BK574.out)))|go_values|go_skip|go_big_skip|go_big_want|((first|(with_reducible refine gate_nog rfl ?_)|(fail_if_success with_reducible refine gate_any ?_));go_step)|go_upon|simp only[Bool.not_true,Bool.not_false,Bool.true_and,Bool.false_and,Bool.true_or,Bool.false_or]|dsimp only)
 (try simp only[Act.put,List.setIfInBounds_toArray,List.set_cons_zero,List.set_cons_succ]);have H:=HC2.out;clear HC2
 by_cases c5:a0_1.toList=([]:List UInt8)
 ·rw[if_pos c5]at H;have c5b0:(a0_1.toList==([]:List UInt8))=true:=beq_iff_eq.mpr c5;have c5e:a0_1.toList.isEmpty=true:=by have hz_:=beq_iff_eq.1 c5b0;rw[hz_];rfl
  (try rw[c5e]);have c5b1:(a0_1.toList !=([]:List UInt8))=false:=bne_eq_false_iff_eq.mpr c5;clear c5;(first|rw[c5b0]|(simp only[i64_w,i32_w];rw[c5b0])|rw[c5b1]|(rw[c5b2];simp only[Bool.not_true,Bool.not_false])|skip);have HC6:=Aside0.mk H;clear H;obtain⟨_,_,_,_,_,_,_,_,_,_,_,_,_,_⟩:=cells7_ BK574.out
  repeat' (first|(go_big_may;(fail))|go_values|go_skip|go_big_skip|go_big_want|((first|(with_reducible refine gate_nog rfl ?_)|(fail_if_success with_reducible refine gate_any ?_));go_step)|go_upon|simp only[Bool.not_true,Bool.not_false,Bool.true_and,Bool.false_and,Bool.true_or,Bool.false_or]|dsimp only)
  have H:=HC6.out;clear HC6
  by_cases c8:a0_2<200
  ·rw[if_pos c8]at H;have c8b0:decide (a0_2<200)=true:=decide_eq_true c8;clear c8;(first|rw[c8b0]|(simp only[i64_w,i32_w];rw[c8b0])|skip);obtain rfl:=Option.some.inj H;go_wp2
   go_ret;exact⟨zz1,zz46⟩
  ·rw[if_neg c8]at H;have c8b0:decide (a0_2<200)=false:=decide_eq_false c8;clear c8;(first|rw[c8b0]|(simp only[i64_w,i32_w];rw[c8b0])|skip);have HC9:=Aside0.mk H;clear H;obtain⟨_,_,_,_,_,_,_,_,_,_,_,_,_,_⟩:=cells7_ BK574.out
   repeat' (first|(go_big_may;(fail))|go_values|go_skip|go_big_skip|go_big_want|((first|(with_reducible refine gate_nog rfl ?_)|(fail_if_success with_reducible refine gate_any ?_));go_step)|go_upon|simp only[Bool.not_true,Bool.not_false,Bool.true_and,Bool.false_and,Bool.true_or,Bool.false_or]|dsimp only)
   have H:=HC9.out;clear HC9
   by_cases c11:a0_2>599
   ·rw[if_pos c11]at H;have c11b0:decide (599<a0_2)=true:=decide_eq_true c11;clear c11;(first|rw[c11b0]|(simp only[i64_w,i32_w];rw[c11b0])|skip);obtain rfl:=Option.some.inj H;go_wp2
    go_ret;exact⟨zz1,zz46⟩
   ·rw[if_neg c11]at H;have c11b0:decide (599<a0_2)=false:=decide_eq_false c11;clear c11;(first|rw[c11b0]|(simp only[i64_w,i32_w];rw[c11b0])|skip);have HC12:=Aside0.mk H;clear H;obtain⟨_,_,_,_,_,_,_,_,_,_,_,_,_,_⟩:=cells7_ BK574.out
    repeat' (first|(go_big_may;(fail))|go_values|go_skip|go_big_skip|go_big_want|((first|(with_reducible refine gate_nog rfl ?_)|(fail_if_success with_reducible refine gate_any ?_));go_step)|go_upon|simp only[Bool.not_true,Bool.not_false,Bool.true_and,Bool.false_and,Bool.true_or,Bool.false_or]|dsimp only)
    have H:=HC12.out;clear HC12
    by_cases c14:(a0_3.size:Int)>40
    ·rw[if_pos c14]at H;have c14b0:decide (40<(a0_3.size:Int))=true:=decide_eq_true c14;have c14b1:decide (40<a0_3.size)=true:=decide_eq_true (by omega);clear c14;(first|rw[c14b0]|(simp only[i64_w,i32_w];rw[c14b0])|rw[c14b1]|(rw[c14b2];simp only[Bool.not_true,Bool.not_false])|skip);obtain rfl:=Option.some.inj H;go_wp2
     go_ret;exact⟨zz1,zz46⟩
    ·rw[if_neg c14]at H;have c14b0:decide (40<(a0_3.size:Int))=false:=decide_eq_false c14;have c14b1:decide (40<a0_3.size)=false:=decide_eq_false (by omega);clear c14;(first|rw[c14b0]|(simp only[i64_w,i32_w];rw[c14b0])|rw[c14b1]|(rw[c14b2];simp only[Bool.not_true,Bool.not_false])|skip);replace H:=Option.bind_eq_some_iff.mp H;obtain⟨t575,A150,H⟩:=H;(try dsimp only at H);have A15:=Aside0.mk A150;clear A150;have HC16:=Aside0.mk H;clear H;obtain⟨_,_,_,_,_,_,_,_,_,_,_,_,_,_⟩:=cells7_ BK574.out
     repeat' (first|(go_big_may;(first|(go_at_call 48;(with_reducible refine(spec_l5plain.calls k a0_3 t575 _ A15.out).mono ?_);rintro e w' ⟨rfl,⟨nd,rfl⟩⟩)))|go_values|go_skip|go_big_skip|go_big_want|((first|(with_reducible refine gate_nog rfl ?_)|(fail_if_success with_reducible refine gate_any ?_));go_step)|go_upon|simp only[Bool.not_true,Bool.not_false,Bool.true_and,Bool.false_and,Bool.true_or,Bool.false_or]|dsimp only)
     (try simp only[Act.put,List.setIfInBounds_toArray,List.set_cons_zero,List.set_cons_succ]);(try(rw[drewN_self w3];generalize hq_:World.drewN w3 _=w3;have n0_:Aside0 (w3.heap[gb574]?=some (.cells #[.string a0_0,.string a0_1,.int .i64 a0_2,.string a0_3,.bool a0_4,.slice A0_5 l0_5.length c0_5,.string a0_6] 34 (0,0))):=⟨by rw[←hq_];exact(by(with_reducible repeat(first|refine blk_drewN ?_ _|refine blk_drew ?_|refine blk_alloc ?_ _));exact BK574.out)⟩;have n1_:Aside0 (Below w.heap.size w w3):=⟨by rw[←hq_];exact zz46⟩;clear BK574 HB hq_;have BK574:=n0_;have HB:=n1_;clear n0_ n1_;have hcu1:w3.cell? ⟨gb574,0,none⟩=some (.string a0_0):=(blk_cell BK574.out 0).trans rfl;have hfu1:=blk_frozen BK574.out 0;have hcu2:w3.cell? ⟨gb574,1,none⟩=some (.string a0_1):=(blk_cell BK574.out 1).trans rfl;have hfu2:=blk_frozen BK574.out 1;have hcu3:w3.cell? ⟨gb574,2,none⟩=some (.int .i64 a0_2):=(blk_cell BK574.out 2).trans rfl;have hfu3:=blk_frozen BK574.out 2;have hcu4:w3.cell? ⟨gb574,3,none⟩=some (.string a0_3):=(blk_cell BK574.out 3).trans rfl;have hfu4:=blk_frozen BK574.out 3;have hcu5:w3.cell? ⟨gb574,4,none⟩=some (.bool a0_4):=(blk_cell BK574.out 4).trans rfl;have hfu5:=blk_frozen BK574.out 4;have hcu6:w3.cell? ⟨gb574,5,none⟩=some (.slice A0_5 l0_5.length c0_5):=(blk_cell BK574.out 5).trans rfl;have hfu6:=blk_frozen BK574.out 5;have hcu7:w3.cell? ⟨gb574,6,none⟩=some (.string a0_6):=(blk_cell BK574.out 6).trans rfl;have hfu7:=blk_frozen BK574.out 6));have H:=HC16.out;clear HC16
     by_cases c18:t575=true
     ·subst c18;rw[if_pos rfl]at H;have HC19:=Aside0.mk H;clear H;obtain⟨_,_,_,_,_,_,_,_,_,_,_,_,_,_⟩:=cells7_ BK574.out
      repeat' (first|(go_big_may;(fail))|go_values|go_skip|go_big_skip|go_big_want|((first|(with_reducible refine gate_nog rfl ?_)|(fail_if_success with_reducible refine gate_any ?_));go_step)|go_upon|simp only[Bool.not_true,Bool.not_false,Bool.true_and,Bool.false_and,Bool.true_or,Bool.false_or]|dsimp only)
      have H:=HC19.out;clear HC19
      by_cases c21:a0_4=true
      ·subst c21;rw[if_pos rfl]at H
       by_cases c22:a0_6.toList=([]:List UInt8)
       ·rw[if_pos c22]at H;have c22b0:(a0_6.toList==([]:List UInt8))=true:=beq_iff_eq.mpr c22;have c22e:a0_6.toList.isEmpty=true:=by have hz_:=beq_iff_eq.1 c22b0;rw[hz_];rfl
        (try rw[c22e]);have c22b1:(a0_6.toList !=([]:List UInt8))=false:=bne_eq_false_iff_eq.mpr c22;clear c22;(first|rw[c22b0]|(simp only[i64_w,i32_w];rw[c22b0])|rw[c22b1]|(rw[c22b2];simp only[Bool.not_true,Bool.not_false])|skip);obtain rfl:=Option.some.inj H;obtain⟨_,_,_,_,_,_,_,_,_,_,_,_,_,_⟩:=cells7_ BK574.out;go_wp2
        go_ret;exact⟨zz1,zz46⟩
       ·rw[if_neg c22]at H;have c22b0:(a0_6.toList==([]:List UInt8))=false:=beq_eq_false_iff_ne.mpr c22;have c22e:a0_6.toList.isEmpty=false:=by cases hz_:a0_6.toList with|nil=>(rw[hz_]at c22b0;exact absurd c22b0 (by decide))|cons _ _=>rfl
        (try rw[c22e]);have c22b1:(a0_6.toList !=([]:List UInt8))=true:=bne_iff_ne.mpr c22;(first|rw[c22b0]|(simp only[i64_w,i32_w];rw[c22b0])|rw[c22b1]|(rw[c22b2];simp only[Bool.not_true,Bool.not_false])|skip);obtain rfl:=Option.some.inj H;obtain⟨_,_,_,_,_,_,_,_,_,_,_,_,_,_⟩:=cells7_ BK574.out;go_wp2
        go_ret;exact⟨zz1,zz46⟩
      ·replace c21:=Bool.eq_false_iff.mpr c21;subst c21;rw[if_neg Bool.false_ne_true]at H;replace H:=Option.bind_eq_some_iff.mp H;obtain⟨t576,A250,H⟩:=H;(try dsimp only at H);have A25:=Aside0.mk A250;clear A250;obtain rfl:=Option.some.inj H;obtain⟨_,_,_,_,_,_,_,_,_,_,_,_,_,_⟩:=cells7_ BK574.out;go_wp2_with (first|(go_at_call 80;(with_reducible refine(spec_l6bare.calls a0_2 t576 _ A25.out).mono ?_);rintro e w' ⟨rfl,⟨nd,rfl⟩⟩))
       go_ret;exact⟨zz1,zz46⟩
     ·replace c18:=Bool.eq_false_iff.mpr c18;subst c18;rw[if_neg Bool.false_ne_true]at H;obtain rfl:=Option.some.inj H;go_wp2
      go_ret;exact⟨zz1,zz46⟩
 ·rw[if_neg c5]at H;have c5b0:(a0_1.toList==([]:List UInt8))=false:=beq_eq_false_iff_ne.mpr c5;have c5e:a0_1.toList.isEmpty=false:=by cases hz_:a0_1.toList with|nil=>(rw[hz_]at c5b0;exact absurd c5b0 (by decide))|cons _ _=>rfl
  (try rw[c5e]);have c5b1:(a0_1.toList !=([]:List UInt8))=true:=bne_iff_ne.mpr c5;(first|rw[c5b0]|(simp only[i64_w,i32_w];rw[c5b0])|rw[c5b1]|(rw[c5b2];simp only[Bool.not_true,Bool.not_false])|skip);obtain rfl:=Option.some.inj H;go_wp2
  go_ret;exact⟨zz1,zz46⟩
def spec_FieldText.f (k:Nat) (a0_0 a0_1:ByteArray):Option (ByteArray):=(spec_FieldOk.f k a0_0 a0_1).bind fun t578=>(if t578=true then(if a0_0.size+2≤9223372036854775807 then(if(a0_0++(⟨#[58,32]⟩:ByteArray)).size+a0_1.size≤9223372036854775807 then(some ((a0_0++(⟨#[58,32]⟩:ByteArray))++a0_1))else(none))else(none))else(some (⟨#[]⟩:ByteArray)))
theorem spec_FieldText.calls (k:Nat) (a0_0 a0_1 r:ByteArray) (w:World) (h:spec_FieldText.f k a0_0 a0_1=some r):
  Calls Tryz.prog 82 #[.agg #[.string a0_0,.string a0_1]] w fun e w'=>e= .returned (.string r)∧Below w.heap.size w w':=by
 have hu82:=Tryz.underlying82;have HB:=Aside0.mk (Below.refl w.heap.size w);have H:((spec_FieldOk.f k a0_0 a0_1).bind fun t578=>(if t578=true then(if a0_0.size+2≤9223372036854775807 then(if(a0_0++(⟨#[58,32]⟩:ByteArray)).size+a0_1.size≤9223372036854775807 then(some ((a0_0++(⟨#[58,32]⟩:ByteArray))++a0_1))else(none))else(none))else(some (⟨#[]⟩:ByteArray))))=some r:=h;clear h;replace H:=Option.bind_eq_some_iff.mp H;obtain⟨t578,A20,H⟩:=H;(try dsimp only at H);have A2:=Aside0.mk A20;clear A20;have HC3:=Aside0.mk H;clear H;go_enter Tryz.func82,Tryz.ntmps82
 go_upto_if 5 with(first|((with_reducible refine gate_dst (N:=1) rfl ?_);refine boxP_ (N:=1) (cs:= #[.string a0_0,.string a0_1]) (t:=82) ?_;intro gb577 hg w4 hbox hb;have BK577:=Aside0.mk (hbox);have GE577:=geb_ (w:=w) hg zz0;replace HB:=Aside0.mk (below_step zz0 hb);clear hb hbox hg;obtain⟨_,_,_,_⟩:=cells2_ BK577.out)|((with_reducible refine gate_callee (f:=78) rfl ?_);refine goesR_ 4 Tryz.func78 #[.agg #[.string a0_0,.string a0_1]] (spec_FieldOk.calls k a0_0 a0_1 t578 _ A2.out) ?_;rintro w6 hb;replace BK577:=Aside0.mk (blk_below (by(with_reducible repeat(first|refine blk_drewN ?_ _|refine blk_drew ?_|refine blk_alloc ?_ _));exact BK577.out) hb);replace HB:=Aside0.mk (below_step zz136 hb);(try clear hb)))
 (try simp only[Act.put,List.setIfInBounds_toArray,List.set_cons_zero,List.set_cons_succ]);have H:=HC3.out;clear HC3
 by_cases c7:t578=true
 ·subst c7;rw[if_pos rfl]at H
  by_cases c8:a0_0.size+2≤9223372036854775807
  ·rw[if_pos c8]at H;have c8b0:=eq_true c8;have c8b1:decide (a0_0.size+2≤9223372036854775807)=true:=decide_eq_true c8;try have c8b2:(9223372036854775807<a0_0.size+2)=False:=eq_false (Nat.not_lt.2 c8)
   by_cases c9:(a0_0++(⟨#[58,32]⟩:ByteArray)).size+a0_1.size≤9223372036854775807
   ·rw[if_pos c9]at H;have c9b0:=eq_true c9;have c9b1:decide ((a0_0++(⟨#[58,32]⟩:ByteArray)).size+a0_1.size≤9223372036854775807)=true:=decide_eq_true c9;(try have c9b2:(9223372036854775807<(a0_0++(⟨#[58,32]⟩:ByteArray)).size+a0_1.size)=False:=eq_false (Nat.not_lt.2 c9));(try have c9z:=c9b2;simp only[ByteArray.size_append,show(⟨#[58,32]⟩:ByteArray).size=2 from rfl]at c9z;have c9b3:=c9z);obtain rfl:=Option.some.inj H;obtain⟨_,_,_,_⟩:=cells2_ BK577.out;go_wp2
    go_ret;exact⟨zz1,zz136⟩
   ·rw[if_neg c9]at H;exact absurd H (by simp)
  ·rw[if_neg c8]at H;exact absurd H (by simp)
 ·replace c7:=Bool.eq_false_iff.mpr c7;subst c7;rw[if_neg Bool.false_ne_true]at H;obtain rfl:=Option.some.inj H;go_wp2
  go_ret;exact⟨zz1,zz136⟩
end Go.Proofs.YtnilblnhlpnpgaaGreatDoor.GFnTwice
