-- Printed by gen.py and its programs for this claim.
import Derived.Test.YtgkipkifkobjnaaGreatDoorGFnExactRecOkx0
import Derived.Test.YtgkipkifkobjnaaGreatDoorGFnExactRecOkx1
import Derived.Test.YtgkipkifkobjnaaGreatDoorGFnExactRecOkx8
import Derived.Test.YtgkipkifkobjnaaGreatDoorGFnExactRecOkx14
import Derived.Test.YtgkipkifkobjnaaGreatDoorGFnExactRecOkx15
import Derived.Test.YtgkipkifkobjnaaGreatDoorZFnExactRecOk
namespace Go.Proofs.YtgkipkifkobjnaaGreatDoor.GFnExactRecOk
open Go.RowKit Go.Proofs.YtgkipkifkobjnaaGreatDoorW.PrintWords Go.Proofs.YtgkipkifkobjnaaGreatDoorW.PrintLast Go.Proofs.YtgkipkifkobjnaaGreatDoorW.PrintMore Go.Proofs.YtgkipkifkobjnaaGreatDoorW.Zs
set_option maxHeartbeats 40000000
set_option maxRecDepth 100000
attribute [local go_sem] max2_int min2_int max_two min_two max_three min_three max_four min_four
set_option linter.unusedVariables false
set_option linter.unusedSimpArgs false
def spec_RecOk.j0:Nat→Bool→Int→Int→Int→ByteArray→Int→ByteArray→ByteArray→Option (Bool)
 |0,_,_,_,_,_,_,_,_=>none
 |k+1,x37,x322000,x322001,x322002,x322003,x322004,x322005,x322006=>if x37=true then(some false)else((spec_Payload.f k x322006).bind fun bt324=>(if x322000=0 then(if x322003.toList=([]:List UInt8)then(if x322005.toList=([]:List UInt8)then(some (x322004==0))else(some false))else(some false))else(if x322000=1 then(if x322005.toList=([]:List UInt8)then(if x322004=0 then(some bt324.2)else(some false))else(some false))else(if x322000=2 then(if x322004=0 then(if bt324.2=true then((spec_Label.f k bt324.1).bind fun t326=>(some (x322005.toList==t326.toList)))else(some false))else(some false))else(if x322000=3 then((spec_ReadLabel.f k x322005).bind fun bt327=>(if x322004≥1 then(if x322004<x322001 then(if bt327.2=true then(if bt324.2=true then(some (bt324.1.toList==([]:List UInt8)))else(some false))else(some false))else(some false))else(some false)))else(if x322000=4 then(if x322005.toList=([]:List UInt8)then(some (x322004==0))else(some false))else(some false)))))))
def spec_RecOk.f (k:Nat) (a0_0 a0_1 a0_2:Int) (a0_3:ByteArray) (a0_4:Int) (a0_5 a0_6:ByteArray):Option (Bool):=if a0_1<0 then(spec_RecOk.j0 k true a0_0 a0_1 a0_2 a0_3 a0_4 a0_5 a0_6)else(if a0_1>999999 then(spec_RecOk.j0 k true a0_0 a0_1 a0_2 a0_3 a0_4 a0_5 a0_6)else((spec_l2time.f a0_2).bind fun t322=>(if t322=true then(if(a0_6.size:Int)>4000 then(spec_RecOk.j0 k true a0_0 a0_1 a0_2 a0_3 a0_4 a0_5 a0_6)else(if a0_0=0 then(spec_RecOk.j0 k false a0_0 a0_1 a0_2 a0_3 a0_4 a0_5 a0_6)else((spec_l8canon.f k a0_3).bind fun t323=>(spec_RecOk.j0 k (!t323) a0_0 a0_1 a0_2 a0_3 a0_4 a0_5 a0_6))))else(spec_RecOk.j0 k true a0_0 a0_1 a0_2 a0_3 a0_4 a0_5 a0_6))))
def spec_RecOk.T10:Bool×List (List Nat×List Nat):=(true,[([],[]),([0],[0]),([1],[1]),([2],[2]),([3],[3]),([3,4],[3,4]),([5,3],[5]),([6],[6]),([7,6],[6,7]),([6],[6]),([9,6,6],[6,9]),([8,10,6],[6,8,10]),([6,11],[6,11]),([12,10,0,1,2,3,4,5,6,7,8,9,10,11,12],[12])])
def spec_RecOk.B10:List Nat:= [0,1,3,7,15,31,63,127,255,127,639,2047,4095,8191]
theorem spec_RecOk.tab10:rtab .any (opsOf Tryz.f5 10)=spec_RecOk.T10:=by kernel_rfl
theorem spec_RecOk.bits10:waitsOk spec_RecOk.T10.2 spec_RecOk.B10=true:=by kernel_rfl
theorem spec_RecOk.calls (k:Nat) (a0_0 a0_1 a0_2:Int) (a0_3:ByteArray) (a0_4:Int) (a0_5 a0_6:ByteArray) (r:Bool) (w:World) (h:spec_RecOk.f k a0_0 a0_1 a0_2 a0_3 a0_4 a0_5 a0_6=some r):
  Calls Tryz.prog 5 #[.agg #[.int .i64 a0_0,.int .i64 a0_1,.int .i64 a0_2,.string a0_3,.int .i64 a0_4,.string a0_5,.string a0_6]] w fun e w'=>e= .returned (.bool r)∧Below w.heap.size w w':=by
 have hu26:=Tryz.underlying26;have HB:=Aside0.mk (Below.refl w.heap.size w);have H:(if a0_1<0 then(spec_RecOk.j0 k true a0_0 a0_1 a0_2 a0_3 a0_4 a0_5 a0_6)else(if a0_1>999999 then(spec_RecOk.j0 k true a0_0 a0_1 a0_2 a0_3 a0_4 a0_5 a0_6)else((spec_l2time.f a0_2).bind fun t322=>(if t322=true then(if(a0_6.size:Int)>4000 then(spec_RecOk.j0 k true a0_0 a0_1 a0_2 a0_3 a0_4 a0_5 a0_6)else(if a0_0=0 then(spec_RecOk.j0 k false a0_0 a0_1 a0_2 a0_3 a0_4 a0_5 a0_6)else((spec_l8canon.f k a0_3).bind fun t323=>(spec_RecOk.j0 k (!t323) a0_0 a0_1 a0_2 a0_3 a0_4 a0_5 a0_6))))else(spec_RecOk.j0 k true a0_0 a0_1 a0_2 a0_3 a0_4 a0_5 a0_6)))))=some r:=h;clear h;have HC2:=Aside0.mk H;clear H;go_enter Tryz.func5,Tryz.ntmps5
 go_upto_region 1 with(first|((with_reducible refine gate_dst (N:=1) rfl ?_);(try(refine gate_guard (by rfl) ?_;dsimp only));refine boxP_ (N:=1) (cs:= #[.int .i64 a0_0,.int .i64 a0_1,.int .i64 a0_2,.string a0_3,.int .i64 a0_4,.string a0_5,.string a0_6]) (t:=26) ?_;intro gb321 hg w3 hbox hb;have BK321:=Aside0.mk (hbox);have GE321:=geb_ (w:=w) hg zz0;replace HB:=Aside0.mk (below_step zz0 hb);clear hb hbox hg))
 (try simp only[Act.put,List.setIfInBounds_toArray,List.set_cons_zero,List.set_cons_succ]);go_cut [37] (fun v37 wc=> ∃(kq:Nat) (x37_1:Bool),v37= .bool x37_1∧Aside0 (spec_RecOk.j0 kq x37_1 a0_0 a0_1 a0_2 a0_3 a0_4 a0_5 a0_6=some r)∧Aside0 (kq≤k)∧Aside0 (wc.heap[gb321]?=some (.cells #[.int .i64 a0_0,.int .i64 a0_1,.int .i64 a0_2,.string a0_3,.int .i64 a0_4,.string a0_5,.string a0_6] 26 (0,0)))∧Aside0 (Below w.heap.size w wc))
 case first=>
  have H:=HC2.out;clear HC2;have HC4:=Aside0.mk H;clear H;obtain⟨_,_,_,_,_,_,_,_,_,_,_,_,_,_⟩:=cells7_ BK321.out
  repeat' (first|(go_big_may;(fail))|go_values|go_skip|go_big_skip|go_big_want|((first|(with_reducible refine gate_nog rfl ?_)|(fail_if_success with_reducible refine gate_any ?_));go_step)|go_upon|simp only[Bool.not_true,Bool.not_false,Bool.true_and,Bool.false_and,Bool.true_or,Bool.false_or]|dsimp only)
  have H:=HC4.out;clear HC4
  by_cases c6:a0_1<0
  ·rw[if_pos c6]at H;have c6b0:decide (a0_1<0)=true:=decide_eq_true c6;clear c6;(first|rw[c6b0]|(simp only[i64_w,i32_w];rw[c6b0])|skip);have H':=Aside0.mk H;clear H;go_wp2
   go_meet
   case rel=>exact⟨_,(true),zz1,H',⟨zz23⟩,⟨zz35⟩,⟨zz7⟩⟩
  ·rw[if_neg c6]at H;have c6b0:decide (a0_1<0)=false:=decide_eq_false c6;clear c6;(first|rw[c6b0]|(simp only[i64_w,i32_w];rw[c6b0])|skip);have HC7:=Aside0.mk H;clear H;obtain⟨_,_,_,_,_,_,_,_,_,_,_,_,_,_⟩:=cells7_ BK321.out
   repeat' (first|(go_big_may;(fail))|go_values|go_skip|go_big_skip|go_big_want|((first|(with_reducible refine gate_nog rfl ?_)|(fail_if_success with_reducible refine gate_any ?_));go_step)|go_upon|simp only[Bool.not_true,Bool.not_false,Bool.true_and,Bool.false_and,Bool.true_or,Bool.false_or]|dsimp only)
   have H:=HC7.out;clear HC7
   by_cases c9:a0_1>999999
   ·rw[if_pos c9]at H;have c9b0:decide (999999<a0_1)=true:=decide_eq_true c9;clear c9;(first|rw[c9b0]|(simp only[i64_w,i32_w];rw[c9b0])|skip);have H':=Aside0.mk H;clear H;go_wp2
    go_meet
    case rel=>exact⟨_,(true),zz1,H',⟨zz23⟩,⟨zz35⟩,⟨zz7⟩⟩
   ·rw[if_neg c9]at H;have c9b0:decide (999999<a0_1)=false:=decide_eq_false c9;clear c9;(first|rw[c9b0]|(simp only[i64_w,i32_w];rw[c9b0])|skip);replace H:=Option.bind_eq_some_iff.mp H;obtain⟨t322,A100,H⟩:=H;(try dsimp only at H);have A10:=Aside0.mk A100;clear A100;have HC11:=Aside0.mk H;clear H;obtain⟨_,_,_,_,_,_,_,_,_,_,_,_,_,_⟩:=cells7_ BK321.out
    repeat' (first|(go_big_may;(first|(go_at_call 8;(with_reducible refine(spec_l2time.calls a0_2 t322 _ A10.out).mono ?_);rintro e w' ⟨rfl,⟨nd,rfl⟩⟩)))|go_values|go_skip|go_big_skip|go_big_want|((first|(with_reducible refine gate_nog rfl ?_)|(fail_if_success with_reducible refine gate_any ?_));go_step)|go_upon|simp only[Bool.not_true,Bool.not_false,Bool.true_and,Bool.false_and,Bool.true_or,Bool.false_or]|dsimp only)
    (try simp only[Act.put,List.setIfInBounds_toArray,List.set_cons_zero,List.set_cons_succ]);(try(rw[drewN_self w3];generalize hq_:World.drewN w3 _=w3;have n0_:Aside0 (w3.heap[gb321]?=some (.cells #[.int .i64 a0_0,.int .i64 a0_1,.int .i64 a0_2,.string a0_3,.int .i64 a0_4,.string a0_5,.string a0_6] 26 (0,0))):=⟨by rw[←hq_];exact zz35⟩;have n1_:Aside0 (Below w.heap.size w w3):=⟨by rw[←hq_];exact zz7⟩;clear BK321 HB hq_;have BK321:=n0_;have HB:=n1_;clear n0_ n1_;have hcu1:w3.cell? ⟨gb321,0,none⟩=some (.int .i64 a0_0):=(blk_cell BK321.out 0).trans rfl;have hfu1:=blk_frozen BK321.out 0;have hcu2:w3.cell? ⟨gb321,1,none⟩=some (.int .i64 a0_1):=(blk_cell BK321.out 1).trans rfl;have hfu2:=blk_frozen BK321.out 1;have hcu3:w3.cell? ⟨gb321,2,none⟩=some (.int .i64 a0_2):=(blk_cell BK321.out 2).trans rfl;have hfu3:=blk_frozen BK321.out 2;have hcu4:w3.cell? ⟨gb321,3,none⟩=some (.string a0_3):=(blk_cell BK321.out 3).trans rfl;have hfu4:=blk_frozen BK321.out 3;have hcu5:w3.cell? ⟨gb321,4,none⟩=some (.int .i64 a0_4):=(blk_cell BK321.out 4).trans rfl;have hfu5:=blk_frozen BK321.out 4;have hcu6:w3.cell? ⟨gb321,5,none⟩=some (.string a0_5):=(blk_cell BK321.out 5).trans rfl;have hfu6:=blk_frozen BK321.out 5;have hcu7:w3.cell? ⟨gb321,6,none⟩=some (.string a0_6):=(blk_cell BK321.out 6).trans rfl;have hfu7:=blk_frozen BK321.out 6));have H:=HC11.out;clear HC11
    by_cases c13:t322=true
    ·subst c13;rw[if_pos rfl]at H;have HC14:=Aside0.mk H;clear H;obtain⟨_,_,_,_,_,_,_,_,_,_,_,_,_,_⟩:=cells7_ BK321.out
     repeat' (first|(go_big_may;(fail))|go_values|go_skip|go_big_skip|go_big_want|((first|(with_reducible refine gate_nog rfl ?_)|(fail_if_success with_reducible refine gate_any ?_));go_step)|go_upon|simp only[Bool.not_true,Bool.not_false,Bool.true_and,Bool.false_and,Bool.true_or,Bool.false_or]|dsimp only)
     have H:=HC14.out;clear HC14
     by_cases c16:(a0_6.size:Int)>4000
     ·rw[if_pos c16]at H;have c16b0:decide (4000<(a0_6.size:Int))=true:=decide_eq_true c16;have c16b1:decide (4000<a0_6.size)=true:=decide_eq_true (by omega);clear c16;(first|rw[c16b0]|(simp only[i64_w,i32_w];rw[c16b0])|rw[c16b1]|(rw[c16b2];simp only[Bool.not_true,Bool.not_false])|skip);have H':=Aside0.mk H;clear H;go_wp2
      go_meet
      case rel=>exact⟨_,(true),zz1,H',⟨zz23⟩,⟨zz35⟩,⟨zz7⟩⟩
     ·rw[if_neg c16]at H;have c16b0:decide (4000<(a0_6.size:Int))=false:=decide_eq_false c16;have c16b1:decide (4000<a0_6.size)=false:=decide_eq_false (by omega);clear c16;(first|rw[c16b0]|(simp only[i64_w,i32_w];rw[c16b0])|rw[c16b1]|(rw[c16b2];simp only[Bool.not_true,Bool.not_false])|skip);have HC17:=Aside0.mk H;clear H;obtain⟨_,_,_,_,_,_,_,_,_,_,_,_,_,_⟩:=cells7_ BK321.out
      repeat' (first|(go_big_may;(fail))|go_values|go_skip|go_big_skip|go_big_want|((first|(with_reducible refine gate_nog rfl ?_)|(fail_if_success with_reducible refine gate_any ?_));go_step)|go_upon|simp only[Bool.not_true,Bool.not_false,Bool.true_and,Bool.false_and,Bool.true_or,Bool.false_or]|dsimp only)
      have H:=HC17.out;clear HC17
      by_cases c19:a0_0=0
      ·rw[if_pos c19]at H;have c19b0:(a0_0==0)=true:=beq_iff_eq.mpr c19;have c19b1:(a0_0 !=0)=false:=bne_eq_false_iff_eq.mpr c19;clear c19;(first|rw[c19b0]|(simp only[i64_w,i32_w];rw[c19b0])|rw[c19b1]|(rw[c19b2];simp only[Bool.not_true,Bool.not_false])|skip);have H':=Aside0.mk H;clear H;go_wp2
       go_meet
       case rel=>exact⟨_,(false),zz1,H',⟨zz23⟩,⟨zz35⟩,⟨zz7⟩⟩
      ·rw[if_neg c19]at H;have c19b0:(a0_0==0)=false:=beq_eq_false_iff_ne.mpr c19;have c19b1:(a0_0 !=0)=true:=bne_iff_ne.mpr c19;(first|rw[c19b0]|(simp only[i64_w,i32_w];rw[c19b0])|rw[c19b1]|(rw[c19b2];simp only[Bool.not_true,Bool.not_false])|skip);replace H:=Option.bind_eq_some_iff.mp H;obtain⟨t323,A200,H⟩:=H;(try dsimp only at H);have A20:=Aside0.mk A200;clear A200;have H':=Aside0.mk H;clear H;obtain⟨_,_,_,_,_,_,_,_,_,_,_,_,_,_⟩:=cells7_ BK321.out;go_wp2_with (first|(go_at_call 9;(with_reducible refine(spec_l8canon.calls k a0_3 t323 _ A20.out).mono ?_);rintro e w22 ⟨rfl,hb⟩;have n0_:=Aside0.mk (blk_below zz35 hb);have n1_:=Aside0.mk (below_step zz7 hb);clear BK321;clear HB;have BK321:=n0_;have HB:=n1_;clear n0_ n1_;(try clear hb);(try clear hb2);(try clear hk);(try clear hi)))
       go_meet
       case rel=>exact⟨_,(!t323),zz1,H',⟨zz23⟩,⟨zz35⟩,⟨zz7⟩⟩
    ·replace c13:=Bool.eq_false_iff.mpr c13;subst c13;rw[if_neg Bool.false_ne_true]at H;have H':=Aside0.mk H;clear H;go_wp2
     go_meet
     case rel=>exact⟨_,(true),zz1,H',⟨zz23⟩,⟨zz35⟩,⟨zz7⟩⟩
 case rest=>as_aux_lemma=>
  clear HC2;(try clear c1);(try clear p2);(try clear c5);(try clear c6);(try clear c6b0);(try clear c9);(try clear c9b0);(try clear c13);(try clear c16);(try clear c16b0);(try clear c16b1);(try clear c19);(try clear c19b0);(try clear c19b1);(try clear hcz12_0);(try clear hcz12_1);(try clear hcz12_2);(try clear hcz12_3);(try clear hcz12_4);(try clear hcz12_5);(try clear hcz12_6);(try clear hcz15_0);(try clear hcz15_1);(try clear hcz15_2);(try clear hcz15_3);(try clear hcz15_4);(try clear hcz15_5);(try clear hcz15_6);(try clear hcz18_0);(try clear hcz18_1);(try clear hcz18_2);(try clear hcz18_3);(try clear hcz18_4);(try clear hcz18_5);(try clear hcz18_6);(try clear hcz21_0);(try clear hcz21_1);(try clear hcz21_2);(try clear hcz21_3);(try clear hcz21_4);(try clear hcz21_5);(try clear hcz21_6);(try clear hcz5_0);(try clear hcz5_1);(try clear hcz5_2);(try clear hcz5_3);(try clear hcz5_4);(try clear hcz5_5);(try clear hcz5_6);(try clear hcz8_0);(try clear hcz8_1);(try clear hcz8_2);(try clear hcz8_3);(try clear hcz8_4);(try clear hcz8_5);(try clear hcz8_6);(try clear hfz12_0);(try clear hfz12_1);(try clear hfz12_2);(try clear hfz12_3);(try clear hfz12_4);(try clear hfz12_5);(try clear hfz12_6);(try clear hfz15_0);(try clear hfz15_1);(try clear hfz15_2);(try clear hfz15_3);(try clear hfz15_4);(try clear hfz15_5);(try clear hfz15_6);(try clear hfz18_0);(try clear hfz18_1);(try clear hfz18_2);(try clear hfz18_3);(try clear hfz18_4);(try clear hfz18_5);(try clear hfz18_6);(try clear hfz21_0);(try clear hfz21_1);(try clear hfz21_2);(try clear hfz21_3);(try clear hfz21_4);(try clear hfz21_5);(try clear hfz21_6);(try clear hfz5_0);(try clear hfz5_1);(try clear hfz5_2);(try clear hfz5_3);(try clear hfz5_4);(try clear hfz5_5);(try clear hfz5_6);(try clear hfz8_0);(try clear hfz8_1);(try clear hfz8_2);(try clear hfz8_3);(try clear hfz8_4);(try clear hfz8_5);(try clear hfz8_6);obtain⟨kq,x37_1,rfl,HA,HJ1,BK321,HB⟩:=hcut
  cases kq with
  |zero=>exact absurd HA.out (by simp[spec_RecOk.j0])
  |succ kj1=>
   have H:=HA.out;clear HA;simp only[spec_RecOk.j0]at H
   by_cases c23:x37_1=true
   ·subst c23;rw[if_pos rfl]at H;obtain rfl:=Option.some.inj H;go_wp2
    go_ret;exact⟨zz2,zz7⟩
   ·as_aux_lemma=>
    replace c23:=Bool.eq_false_iff.mpr c23;subst c23;rw[if_neg Bool.false_ne_true]at H;replace H:=Option.bind_eq_some_iff.mp H;obtain⟨⟨t324,t325⟩,A240,H⟩:=H;(try dsimp only at H);have A24:=Aside0.mk A240;clear A240;have HC25:=Aside0.mk H;clear H;obtain⟨_,_,_,_,_,_,_,_,_,_,_,_,_,_⟩:=cells7_ BK321.out;go_upto_if 46 with(first|((with_reducible refine gate_callee (f:=10) rfl ?_);refine goesR_ 41 Tryz.func10 #[.string a0_6] (spec_Payload.calls kj1 a0_6 t324 t325 _ A24.out) ?_;rintro w' ⟨nd,rfl⟩))
    (try simp only[Act.put,List.setIfInBounds_toArray,List.set_cons_zero,List.set_cons_succ]);(try(rw[drewN_self wc];generalize hq_:World.drewN wc _=wc;have n0_:Aside0 (wc.heap[gb321]?=some (.cells #[.int .i64 a0_0,.int .i64 a0_1,.int .i64 a0_2,.string a0_3,.int .i64 a0_4,.string a0_5,.string a0_6] 26 (0,0))):=⟨by rw[←hq_];exact zz35⟩;have n1_:Aside0 (Below w.heap.size w wc):=⟨by rw[←hq_];exact zz7⟩;clear BK321 HB hq_;have BK321:=n0_;have HB:=n1_;clear n0_ n1_;have hcu8:wc.cell? ⟨gb321,0,none⟩=some (.int .i64 a0_0):=(blk_cell BK321.out 0).trans rfl;have hfu8:=blk_frozen BK321.out 0;have hcu9:wc.cell? ⟨gb321,1,none⟩=some (.int .i64 a0_1):=(blk_cell BK321.out 1).trans rfl;have hfu9:=blk_frozen BK321.out 1;have hcu10:wc.cell? ⟨gb321,2,none⟩=some (.int .i64 a0_2):=(blk_cell BK321.out 2).trans rfl;have hfu10:=blk_frozen BK321.out 2;have hcu11:wc.cell? ⟨gb321,3,none⟩=some (.string a0_3):=(blk_cell BK321.out 3).trans rfl;have hfu11:=blk_frozen BK321.out 3;have hcu12:wc.cell? ⟨gb321,4,none⟩=some (.int .i64 a0_4):=(blk_cell BK321.out 4).trans rfl;have hfu12:=blk_frozen BK321.out 4;have hcu13:wc.cell? ⟨gb321,5,none⟩=some (.string a0_5):=(blk_cell BK321.out 5).trans rfl;have hfu13:=blk_frozen BK321.out 5;have hcu14:wc.cell? ⟨gb321,6,none⟩=some (.string a0_6):=(blk_cell BK321.out 6).trans rfl;have hfu14:=blk_frozen BK321.out 6));have H:=HC25.out;clear HC25
    by_cases c27:a0_0=0
    ·rw[if_pos c27]at H;have c27b0:(a0_0==0)=true:=beq_iff_eq.mpr c27;have c27b1:(a0_0 !=0)=false:=bne_eq_false_iff_eq.mpr c27;clear c27;(first|rw[c27b0]|(simp only[i64_w,i32_w];rw[c27b0])|rw[c27b1]|(rw[c27b2];simp only[Bool.not_true,Bool.not_false])|skip);have HC28:=Aside0.mk H;clear H;obtain⟨_,_,_,_,_,_,_,_,_,_,_,_,_,_⟩:=cells7_ BK321.out
     repeat' (first|(go_big_may;(fail))|go_values|go_skip|go_big_skip|go_big_want|((first|(with_reducible refine gate_nog rfl ?_)|(fail_if_success with_reducible refine gate_any ?_));go_step)|go_upon|simp only[Bool.not_true,Bool.not_false,Bool.true_and,Bool.false_and,Bool.true_or,Bool.false_or]|dsimp only)
     have H:=HC28.out;clear HC28
     by_cases c30:a0_3.toList=([]:List UInt8)
     ·rw[if_pos c30]at H;have c30b0:(a0_3.toList==([]:List UInt8))=true:=beq_iff_eq.mpr c30;have c30e:a0_3.toList.isEmpty=true:=by have hz_:=beq_iff_eq.1 c30b0;rw[hz_];rfl
      (try rw[c30e]);have c30b1:(a0_3.toList !=([]:List UInt8))=false:=bne_eq_false_iff_eq.mpr c30;clear c30;(first|rw[c30b0]|(simp only[i64_w,i32_w];rw[c30b0])|rw[c30b1]|(rw[c30b2];simp only[Bool.not_true,Bool.not_false])|skip);have HC31:=Aside0.mk H;clear H;obtain⟨_,_,_,_,_,_,_,_,_,_,_,_,_,_⟩:=cells7_ BK321.out
      repeat' (first|(go_big_may;(fail))|go_values|go_skip|go_big_skip|go_big_want|((first|(with_reducible refine gate_nog rfl ?_)|(fail_if_success with_reducible refine gate_any ?_));go_step)|go_upon|simp only[Bool.not_true,Bool.not_false,Bool.true_and,Bool.false_and,Bool.true_or,Bool.false_or]|dsimp only)
      have H:=HC31.out;clear HC31
      by_cases c33:a0_5.toList=([]:List UInt8)
      ·rw[if_pos c33]at H;have c33b0:(a0_5.toList==([]:List UInt8))=true:=beq_iff_eq.mpr c33;have c33e:a0_5.toList.isEmpty=true:=by have hz_:=beq_iff_eq.1 c33b0;rw[hz_];rfl
       (try rw[c33e]);have c33b1:(a0_5.toList !=([]:List UInt8))=false:=bne_eq_false_iff_eq.mpr c33;clear c33;(first|rw[c33b0]|(simp only[i64_w,i32_w];rw[c33b0])|rw[c33b1]|(rw[c33b2];simp only[Bool.not_true,Bool.not_false])|skip);obtain rfl:=Option.some.inj H;obtain⟨_,_,_,_,_,_,_,_,_,_,_,_,_,_⟩:=cells7_ BK321.out;go_wp2
       go_ret;exact⟨zz2,zz7⟩
      ·rw[if_neg c33]at H;have c33b0:(a0_5.toList==([]:List UInt8))=false:=beq_eq_false_iff_ne.mpr c33;have c33e:a0_5.toList.isEmpty=false:=by cases hz_:a0_5.toList with|nil=>(rw[hz_]at c33b0;exact absurd c33b0 (by decide))|cons _ _=>rfl
       (try rw[c33e]);have c33b1:(a0_5.toList !=([]:List UInt8))=true:=bne_iff_ne.mpr c33;(first|rw[c33b0]|(simp only[i64_w,i32_w];rw[c33b0])|rw[c33b1]|(rw[c33b2];simp only[Bool.not_true,Bool.not_false])|skip);obtain rfl:=Option.some.inj H;go_wp2
       go_ret;exact⟨zz2,zz7⟩
     ·rw[if_neg c30]at H;have c30b0:(a0_3.toList==([]:List UInt8))=false:=beq_eq_false_iff_ne.mpr c30;have c30e:a0_3.toList.isEmpty=false:=by cases hz_:a0_3.toList with|nil=>(rw[hz_]at c30b0;exact absurd c30b0 (by decide))|cons _ _=>rfl
      (try rw[c30e]);have c30b1:(a0_3.toList !=([]:List UInt8))=true:=bne_iff_ne.mpr c30;(first|rw[c30b0]|(simp only[i64_w,i32_w];rw[c30b0])|rw[c30b1]|(rw[c30b2];simp only[Bool.not_true,Bool.not_false])|skip);obtain rfl:=Option.some.inj H;go_wp2
      go_ret;exact⟨zz2,zz7⟩
    ·as_aux_lemma=>
     rw[if_neg c27]at H;have c27b0:(a0_0==0)=false:=beq_eq_false_iff_ne.mpr c27;have c27b1:(a0_0 !=0)=true:=bne_iff_ne.mpr c27;(first|rw[c27b0]|(simp only[i64_w,i32_w];rw[c27b0])|rw[c27b1]|(rw[c27b2];simp only[Bool.not_true,Bool.not_false])|skip)
     by_cases c35:a0_0=1
     ·rw[if_pos c35]at H;have c35b0:(a0_0==1)=true:=beq_iff_eq.mpr c35;have c35b1:(a0_0 !=1)=false:=bne_eq_false_iff_eq.mpr c35;clear c35;have HC36:=Aside0.mk H;clear H;obtain⟨_,_,_,_,_,_,_,_,_,_,_,_,_,_⟩:=cells7_ BK321.out
      repeat' (first|(go_big_may;(fail))|go_values|go_skip|go_big_skip|go_big_want|((first|(with_reducible refine gate_nog rfl ?_)|(fail_if_success with_reducible refine gate_any ?_));go_step)|go_upon|simp only[Bool.not_true,Bool.not_false,Bool.true_and,Bool.false_and,Bool.true_or,Bool.false_or]|dsimp only)
      have H:=HC36.out;clear HC36
      by_cases c38:a0_5.toList=([]:List UInt8)
      ·rw[if_pos c38]at H;have c38b0:(a0_5.toList==([]:List UInt8))=true:=beq_iff_eq.mpr c38;have c38e:a0_5.toList.isEmpty=true:=by have hz_:=beq_iff_eq.1 c38b0;rw[hz_];rfl
       (try rw[c38e]);have c38b1:(a0_5.toList !=([]:List UInt8))=false:=bne_eq_false_iff_eq.mpr c38;clear c38;(first|rw[c38b0]|(simp only[i64_w,i32_w];rw[c38b0])|rw[c38b1]|(rw[c38b2];simp only[Bool.not_true,Bool.not_false])|skip);have HC39:=Aside0.mk H;clear H;obtain⟨_,_,_,_,_,_,_,_,_,_,_,_,_,_⟩:=cells7_ BK321.out
       repeat' (first|(go_big_may;(fail))|go_values|go_skip|go_big_skip|go_big_want|((first|(with_reducible refine gate_nog rfl ?_)|(fail_if_success with_reducible refine gate_any ?_));go_step)|go_upon|simp only[Bool.not_true,Bool.not_false,Bool.true_and,Bool.false_and,Bool.true_or,Bool.false_or]|dsimp only)
       have H:=HC39.out;clear HC39
       by_cases c41:a0_4=0
       ·rw[if_pos c41]at H;have c41b0:(a0_4==0)=true:=beq_iff_eq.mpr c41;have c41b1:(a0_4 !=0)=false:=bne_eq_false_iff_eq.mpr c41;clear c41;(first|rw[c41b0]|(simp only[i64_w,i32_w];rw[c41b0])|rw[c41b1]|(rw[c41b2];simp only[Bool.not_true,Bool.not_false])|skip);obtain rfl:=Option.some.inj H;go_wp2
        go_ret;exact⟨zz2,zz7⟩
       ·rw[if_neg c41]at H;have c41b0:(a0_4==0)=false:=beq_eq_false_iff_ne.mpr c41;have c41b1:(a0_4 !=0)=true:=bne_iff_ne.mpr c41;(first|rw[c41b0]|(simp only[i64_w,i32_w];rw[c41b0])|rw[c41b1]|(rw[c41b2];simp only[Bool.not_true,Bool.not_false])|skip);obtain rfl:=Option.some.inj H;go_wp2
        go_ret;exact⟨zz2,zz7⟩
      ·rw[if_neg c38]at H;have c38b0:(a0_5.toList==([]:List UInt8))=false:=beq_eq_false_iff_ne.mpr c38;have c38e:a0_5.toList.isEmpty=false:=by cases hz_:a0_5.toList with|nil=>(rw[hz_]at c38b0;exact absurd c38b0 (by decide))|cons _ _=>rfl
       (try rw[c38e]);have c38b1:(a0_5.toList !=([]:List UInt8))=true:=bne_iff_ne.mpr c38;(first|rw[c38b0]|(simp only[i64_w,i32_w];rw[c38b0])|rw[c38b1]|(rw[c38b2];simp only[Bool.not_true,Bool.not_false])|skip);obtain rfl:=Option.some.inj H;go_wp2
       go_ret;exact⟨zz2,zz7⟩
     ·as_aux_lemma=>
      rw[if_neg c35]at H;have c35b0:(a0_0==1)=false:=beq_eq_false_iff_ne.mpr c35;have c35b1:(a0_0 !=1)=true:=bne_iff_ne.mpr c35
      by_cases c42:a0_0=2
      ·rw[if_pos c42]at H;have c42b0:(a0_0==2)=true:=beq_iff_eq.mpr c42;have c42b1:(a0_0 !=2)=false:=bne_eq_false_iff_eq.mpr c42;clear c42
       by_cases c43:a0_4=0
       ·rw[if_pos c43]at H;have c43b0:(a0_4==0)=true:=beq_iff_eq.mpr c43;have c43b1:(a0_4 !=0)=false:=bne_eq_false_iff_eq.mpr c43;clear c43
        by_cases c44:t325=true
        ·subst c44;rw[if_pos rfl]at H;replace H:=Option.bind_eq_some_iff.mp H;obtain⟨t326,A450,H⟩:=H;(try dsimp only at H);have A45:=Aside0.mk A450;clear A450;obtain rfl:=Option.some.inj H;(try go_wp2);replace BK321:=Aside0.mk (blk_drew BK321.out);replace HB:=Aside0.mk (below_drew1 HB.out);refine st_ (n:=14) (S:=fun w'=>w'.cell? ⟨gb321,0,none⟩=some (.int .i64 a0_0)∧w'.cell? ⟨gb321,1,none⟩=some (.int .i64 a0_1)∧w'.cell? ⟨gb321,2,none⟩=some (.int .i64 a0_2)∧w'.cell? ⟨gb321,3,none⟩=some (.string a0_3)∧w'.cell? ⟨gb321,4,none⟩=some (.int .i64 a0_4)∧w'.cell? ⟨gb321,5,none⟩=some (.string a0_5)∧w'.cell? ⟨gb321,6,none⟩=some (.string a0_6)) (ds:= []) (hold7_ BK321.out) (fun hHeld=>?_);refine with_tabW spec_RecOk.tab10 spec_RecOk.bits10 (fun HT_ HW_=>?_);generalize wc.drew=w46 at BK321 HB hHeld ⊢;refine pz 0 76 ?_;refine tk3_ 1 77 hHeld ?_;refine pz 2 78 ?_;refine pz 3 79 ?_;refine pz 4 80 ?_;refine pz 5 81 ?_;refine pz 6 82 ?_;refine pz 7 83 ?_;refine pz 9 85 ?_;refine tk3_ 8 84 hHeld ?_;refine ozZ 10 86 Tryz.func11 #[.string t324] (spec_Label.calls kj1 t324 t326 _ A45.out) (fun K hK=>?_);rintro w47 hb;replace BK321:=Aside0.mk (blk_below zz35 hb);replace HB:=Aside0.mk (below_step zz7 hb);(try clear hb);(try clear hb2);(try clear hk);(try clear hi);refine hK.out _ _ (hold7_ BK321.out) (fun hHeld=>?_);clear hK K;refine nz ?_;refine pz 11 87 ?_;refine pz 12 88 ?_;refine pz 13 2 ?_;refine done_ (done_of HT_.out (by kernel_rfl)) ?_;(try go_wp2);go_ret;exact⟨zz2,zz7⟩
        ·replace c44:=Bool.eq_false_iff.mpr c44;subst c44;rw[if_neg Bool.false_ne_true]at H;obtain rfl:=Option.some.inj H;(try go_wp2);replace BK321:=Aside0.mk (blk_drew BK321.out);replace HB:=Aside0.mk (below_drew1 HB.out);refine st_ (n:=14) (S:=fun w'=>w'.cell? ⟨gb321,0,none⟩=some (.int .i64 a0_0)∧w'.cell? ⟨gb321,1,none⟩=some (.int .i64 a0_1)∧w'.cell? ⟨gb321,2,none⟩=some (.int .i64 a0_2)∧w'.cell? ⟨gb321,3,none⟩=some (.string a0_3)∧w'.cell? ⟨gb321,4,none⟩=some (.int .i64 a0_4)∧w'.cell? ⟨gb321,5,none⟩=some (.string a0_5)∧w'.cell? ⟨gb321,6,none⟩=some (.string a0_6)) (ds:= []) (hold7_ BK321.out) (fun hHeld=>?_);refine with_tabW spec_RecOk.tab10 spec_RecOk.bits10 (fun HT_ HW_=>?_);generalize wc.drew=w48 at BK321 HB hHeld ⊢;refine pz 0 76 ?_;refine tk3_ 1 77 hHeld ?_;refine pz 2 78 ?_;refine pz 3 79 ?_;refine pz 4 80 ?_;refine pz 5 81 ?_;refine pz 6 82 ?_;refine pu 7 83 ?_;refine pu 8 84 ?_;refine pu 9 85 ?_;refine pu 10 86 ?_;refine pu 11 87 ?_;refine pz 12 88 ?_;refine pz 13 2 ?_;refine done_ (done_of HT_.out (by kernel_rfl)) ?_;(try go_wp2);go_ret;exact⟨zz2,zz7⟩
       ·rw[if_neg c43]at H;have c43b0:(a0_4==0)=false:=beq_eq_false_iff_ne.mpr c43;have c43b1:(a0_4 !=0)=true:=bne_iff_ne.mpr c43;obtain rfl:=Option.some.inj H;(try go_wp2);replace BK321:=Aside0.mk (blk_drew BK321.out);replace HB:=Aside0.mk (below_drew1 HB.out);refine st_ (n:=14) (S:=fun w'=>w'.cell? ⟨gb321,0,none⟩=some (.int .i64 a0_0)∧w'.cell? ⟨gb321,1,none⟩=some (.int .i64 a0_1)∧w'.cell? ⟨gb321,2,none⟩=some (.int .i64 a0_2)∧w'.cell? ⟨gb321,3,none⟩=some (.string a0_3)∧w'.cell? ⟨gb321,4,none⟩=some (.int .i64 a0_4)∧w'.cell? ⟨gb321,5,none⟩=some (.string a0_5)∧w'.cell? ⟨gb321,6,none⟩=some (.string a0_6)) (ds:= []) (hold7_ BK321.out) (fun hHeld=>?_);refine with_tabW spec_RecOk.tab10 spec_RecOk.bits10 (fun HT_ HW_=>?_);generalize wc.drew=w49 at BK321 HB hHeld ⊢;refine pz 0 76 ?_;refine tk3_ 1 77 hHeld ?_;refine pz 2 78 ?_;refine pz 3 79 ?_;refine pu 4 80 ?_;refine pz 5 81 ?_;refine pz 6 82 ?_;refine pu 7 83 ?_;refine pu 8 84 ?_;refine pu 9 85 ?_;refine pu 10 86 ?_;refine pu 11 87 ?_;refine pz 12 88 ?_;refine pz 13 2 ?_;refine done_ (done_of HT_.out (by kernel_rfl)) ?_;(try go_wp2);go_ret;exact⟨zz2,zz7⟩
      ·rw[if_neg c42]at H;have c42b0:(a0_0==2)=false:=beq_eq_false_iff_ne.mpr c42;have c42b1:(a0_0 !=2)=true:=bne_iff_ne.mpr c42
       by_cases c50:a0_0=3
       ·rw[if_pos c50]at H;have c50b0:(a0_0==3)=true:=beq_iff_eq.mpr c50;have c50b1:(a0_0 !=3)=false:=bne_eq_false_iff_eq.mpr c50;clear c50;replace H:=Option.bind_eq_some_iff.mp H;obtain⟨⟨t327,t328⟩,A510,H⟩:=H;(try dsimp only at H);have A51:=Aside0.mk A510;clear A510;have HC52:=Aside0.mk H;clear H;obtain⟨_,_,_,_,_,_,_,_,_,_,_,_,_,_⟩:=cells7_ BK321.out
        repeat' (first|(go_big_may;(first|((with_reducible refine gate_callee (f:=12) rfl ?_);refine goesR_ 94 Tryz.func12 #[.string a0_5] (spec_ReadLabel.calls kj1 a0_5 t327 t328 _ A51.out) ?_;rintro w54 hb;replace BK321:=Aside0.mk (blk_below zz35 hb);replace HB:=Aside0.mk (below_step zz7 hb);(try clear hb);obtain⟨_,_,_,_,_,_,_,_,_,_,_,_,_,_⟩:=cells7_ BK321.out)))|go_values|go_skip|go_big_skip|go_big_want|((first|(with_reducible refine gate_nog rfl ?_)|(fail_if_success with_reducible refine gate_any ?_));go_step)|go_upon|simp only[Bool.not_true,Bool.not_false,Bool.true_and,Bool.false_and,Bool.true_or,Bool.false_or]|dsimp only)
        (try simp only[Act.put,List.setIfInBounds_toArray,List.set_cons_zero,List.set_cons_succ]);have H:=HC52.out;clear HC52
        by_cases c56:a0_4≥1
        ·rw[if_pos c56]at H;have c56b0:decide (1≤a0_4)=true:=decide_eq_true c56;clear c56;(first|rw[c56b0]|(simp only[i64_w,i32_w];rw[c56b0])|skip);have HC57:=Aside0.mk H;clear H;obtain⟨_,_,_,_,_,_,_,_,_,_,_,_,_,_⟩:=cells7_ BK321.out
         repeat' (first|(go_big_may;(fail))|go_values|go_skip|go_big_skip|go_big_want|((first|(with_reducible refine gate_nog rfl ?_)|(fail_if_success with_reducible refine gate_any ?_));go_step)|go_upon|simp only[Bool.not_true,Bool.not_false,Bool.true_and,Bool.false_and,Bool.true_or,Bool.false_or]|dsimp only)
         have H:=HC57.out;clear HC57
         by_cases c59:a0_4<a0_1
         ·rw[if_pos c59]at H;have c59b0:decide (a0_4<a0_1)=true:=decide_eq_true c59;clear c59;(first|rw[c59b0]|(simp only[i64_w,i32_w];rw[c59b0])|skip)
          by_cases c60:t328=true
          ·subst c60;rw[if_pos rfl]at H
           by_cases c61:t325=true
           ·subst c61;rw[if_pos rfl]at H;obtain rfl:=Option.some.inj H;go_wp2
            go_ret;exact⟨zz2,zz7⟩
           ·replace c61:=Bool.eq_false_iff.mpr c61;subst c61;rw[if_neg Bool.false_ne_true]at H;obtain rfl:=Option.some.inj H;go_wp2
            go_ret;exact⟨zz2,zz7⟩
          ·replace c60:=Bool.eq_false_iff.mpr c60;subst c60;rw[if_neg Bool.false_ne_true]at H;obtain rfl:=Option.some.inj H;go_wp2
           go_ret;exact⟨zz2,zz7⟩
         ·rw[if_neg c59]at H;have c59b0:decide (a0_4<a0_1)=false:=decide_eq_false c59;clear c59;(first|rw[c59b0]|(simp only[i64_w,i32_w];rw[c59b0])|skip);obtain rfl:=Option.some.inj H;go_wp2
          go_ret;exact⟨zz2,zz7⟩
        ·rw[if_neg c56]at H;have c56b0:decide (1≤a0_4)=false:=decide_eq_false c56;clear c56;(first|rw[c56b0]|(simp only[i64_w,i32_w];rw[c56b0])|skip);obtain rfl:=Option.some.inj H;go_wp2
         go_ret;exact⟨zz2,zz7⟩
       ·rw[if_neg c50]at H;have c50b0:(a0_0==3)=false:=beq_eq_false_iff_ne.mpr c50;have c50b1:(a0_0 !=3)=true:=bne_iff_ne.mpr c50
        by_cases c62:a0_0=4
        ·rw[if_pos c62]at H;have c62b0:(a0_0==4)=true:=beq_iff_eq.mpr c62;have c62b1:(a0_0 !=4)=false:=bne_eq_false_iff_eq.mpr c62;clear c62;have HC63:=Aside0.mk H;clear H;obtain⟨_,_,_,_,_,_,_,_,_,_,_,_,_,_⟩:=cells7_ BK321.out
         repeat' (first|(go_big_may;(fail))|go_values|go_skip|go_big_skip|go_big_want|((first|(with_reducible refine gate_nog rfl ?_)|(fail_if_success with_reducible refine gate_any ?_));go_step)|go_upon|simp only[Bool.not_true,Bool.not_false,Bool.true_and,Bool.false_and,Bool.true_or,Bool.false_or]|dsimp only)
         have H:=HC63.out;clear HC63
         by_cases c65:a0_5.toList=([]:List UInt8)
         ·rw[if_pos c65]at H;have c65b0:(a0_5.toList==([]:List UInt8))=true:=beq_iff_eq.mpr c65;have c65e:a0_5.toList.isEmpty=true:=by have hz_:=beq_iff_eq.1 c65b0;rw[hz_];rfl
          (try rw[c65e]);have c65b1:(a0_5.toList !=([]:List UInt8))=false:=bne_eq_false_iff_eq.mpr c65;clear c65;(first|rw[c65b0]|(simp only[i64_w,i32_w];rw[c65b0])|rw[c65b1]|(rw[c65b2];simp only[Bool.not_true,Bool.not_false])|skip);obtain rfl:=Option.some.inj H;obtain⟨_,_,_,_,_,_,_,_,_,_,_,_,_,_⟩:=cells7_ BK321.out;go_wp2
          go_ret;exact⟨zz2,zz7⟩
         ·rw[if_neg c65]at H;have c65b0:(a0_5.toList==([]:List UInt8))=false:=beq_eq_false_iff_ne.mpr c65;have c65e:a0_5.toList.isEmpty=false:=by cases hz_:a0_5.toList with|nil=>(rw[hz_]at c65b0;exact absurd c65b0 (by decide))|cons _ _=>rfl
          (try rw[c65e]);have c65b1:(a0_5.toList !=([]:List UInt8))=true:=bne_iff_ne.mpr c65;(first|rw[c65b0]|(simp only[i64_w,i32_w];rw[c65b0])|rw[c65b1]|(rw[c65b2];simp only[Bool.not_true,Bool.not_false])|skip);obtain rfl:=Option.some.inj H;go_wp2
          go_ret;exact⟨zz2,zz7⟩
        ·rw[if_neg c62]at H;have c62b0:(a0_0==4)=false:=beq_eq_false_iff_ne.mpr c62;have c62b1:(a0_0 !=4)=true:=bne_iff_ne.mpr c62;obtain rfl:=Option.some.inj H;go_wp2
         go_ret;exact⟨zz2,zz7⟩
end Go.Proofs.YtgkipkifkobjnaaGreatDoor.GFnExactRecOk
