-- Printed by gen.py and its programs for this claim.
import Derived.Test.YthmehmehoehlpaaGreatDoorGFnExactRecTextx0
import Derived.Test.YthmehmehoehlpaaGreatDoorGFnExactRecTextx1
import Derived.Test.YthmehmehoehlpaaGreatDoorGFnExactRecTextx8
import Derived.Test.YthmehmehoehlpaaGreatDoorGFnExactRecTextx14
import Derived.Test.YthmehmehoehlpaaGreatDoorGFnExactRecTextx15
import Derived.Test.YthmehmehoehlpaaGreatDoorZFnExactRecText
namespace Go.Proofs.YthmehmehoehlpaaGreatDoor.GFnExactRecText
open Go.RowKit Go.Proofs.YthmehmehoehlpaaGreatDoorW.PrintWords Go.Proofs.YthmehmehoehlpaaGreatDoorW.PrintLast Go.Proofs.YthmehmehoehlpaaGreatDoorW.PrintMore Go.Proofs.YthmehmehoehlpaaGreatDoorW.Zs
set_option maxHeartbeats 40000000
set_option maxRecDepth 100000
attribute [local go_sem] max2_int min2_int max_two min_two max_three min_three max_four min_four
set_option linter.unusedVariables false
set_option linter.unusedSimpArgs false
def spec_RecOk.j0:Nat→Bool→Int→Int→Int→ByteArray→Int→ByteArray→ByteArray→Option (Bool)
 |0,_,_,_,_,_,_,_,_=>none
 |k+1,x0,x1,x2,x3,x4,x5,x6,x7=>if x0=true then(some false)else((spec_Payload.f k x7).bind fun b0=>(if x1=0 then(if x4.toList=([]:List UInt8)then(if x6.toList=([]:List UInt8)then(some (x5==0))else(some false))else(some false))else(if x1=1 then(if x6.toList=([]:List UInt8)then(if x5=0 then(some b0.2)else(some false))else(some false))else(if x1=2 then(if x5=0 then(if b0.2=true then((spec_Label.f k b0.1).bind fun t0=>(some (x6.toList==t0.toList)))else(some false))else(some false))else(if x1=3 then((spec_ReadLabel.f k x6).bind fun b1=>(if x5≥1 then(if x5<x2 then(if b1.2=true then(if b0.2=true then(some (b0.1.toList==([]:List UInt8)))else(some false))else(some false))else(some false))else(some false)))else(if x1=4 then(if x6.toList=([]:List UInt8)then(some (x5==0))else(some false))else(some false)))))))
def spec_RecOk.f (k:Nat) (a0 a1 a2:Int) (a3:ByteArray) (a4:Int) (a5 a6:ByteArray):Option (Bool):=if a1<0 then(spec_RecOk.j0 k true a0 a1 a2 a3 a4 a5 a6)else(if a1>999999 then(spec_RecOk.j0 k true a0 a1 a2 a3 a4 a5 a6)else((spec_l2time.f a2).bind fun t0=>(if t0=true then(if(a6.size:Int)>4000 then(spec_RecOk.j0 k true a0 a1 a2 a3 a4 a5 a6)else(if a0=0 then(spec_RecOk.j0 k false a0 a1 a2 a3 a4 a5 a6)else((spec_l8canon.f k a3).bind fun t1=>(spec_RecOk.j0 k (!t1) a0 a1 a2 a3 a4 a5 a6))))else(spec_RecOk.j0 k true a0 a1 a2 a3 a4 a5 a6))))
def spec_RecOk.T10:Bool×List (List Nat×List Nat):=(true,[([],[]),([0],[0]),([1],[1]),([2],[2]),([3],[3]),([3,4],[3,4]),([5,3],[5]),([6],[6]),([7,6],[6,7]),([6],[6]),([9,6,6],[6,9]),([8,10,6],[6,8,10]),([6,11],[6,11]),([12,10,0,1,2,3,4,5,6,7,8,9,10,11,12],[12])])
def spec_RecOk.B10:List Nat:= [0,1,3,7,15,31,63,127,255,127,639,2047,4095,8191]
theorem spec_RecOk.tab10:rtab .any (opsOf Tryz.f8 10)=spec_RecOk.T10:=by kernel_rfl
theorem spec_RecOk.bits10:waitsOk spec_RecOk.T10.2 spec_RecOk.B10=true:=by kernel_rfl
theorem spec_RecOk.calls (k:Nat) (a0 a1 a2:Int) (a3:ByteArray) (a4:Int) (a5 a6:ByteArray) (r:Bool) (w:World) (H:spec_RecOk.f k a0 a1 a2 a3 a4 a5 a6=some r):
  Calls Tryz.prog 8 #[.agg #[.int .i64 a0,.int .i64 a1,.int .i64 a2,.string a3,.int .i64 a4,.string a5,.string a6]] w fun e w'=>e= .returned (.bool r)∧Below w.heap.size w w':=by
 have hu26:=Tryz.underlying26;have HB:=Aside0.mk (Below.refl w.heap.size w);unfold spec_RecOk.f at H;have C0:=Aside0.mk H;clear H;go_enter Tryz.func8,Tryz.ntmps8
 go_upto_region 1 with(first|((with_reducible refine gate_dst (N:=1) rfl ?_);(try(refine gate_guard (by rfl) ?_;dsimp only));refine boxP_ (N:=1) (cs:= #[.int .i64 a0,.int .i64 a1,.int .i64 a2,.string a3,.int .i64 a4,.string a5,.string a6]) (t:=26) ?_;intro g0 hg w0 hbox hb;have B0:=Aside0.mk (hbox);have G0:=geb_ (w:=w) hg zb_;replace HB:=Aside0.mk (below_step zb_ hb);clear hb hbox hg))
 (try simp only[Act.put,List.setIfInBounds_toArray,List.set_cons_zero,List.set_cons_succ]);go_cut [37] (fun v0 wc=> ∃(kq:Nat) (x0:Bool),v0= .bool x0∧Aside0 (spec_RecOk.j0 kq x0 a0 a1 a2 a3 a4 a5 a6=some r)∧Aside0 (kq≤k)∧Aside0 (wc.heap[g0]?=some (.cells #[.int .i64 a0,.int .i64 a1,.int .i64 a2,.string a3,.int .i64 a4,.string a5,.string a6] 26 (0,0)))∧Aside0 (Below w.heap.size w wc))
 case first=>
  have H:=C0.out;clear C0;have C1:=Aside0.mk H;clear H;obtain⟨_,_,_,_,_,_,_,_,_,_,_,_,_,_⟩:=cells7_ B0.out
  repeat' (first|(go_big_may;(fail))|go_values|go_skip|go_big_skip|go_big_want|((first|(with_reducible refine gate_nog rfl ?_)|(fail_if_success with_reducible refine gate_any ?_));go_step)|go_upon|simp only[Bool.not_true,Bool.not_false,Bool.true_and,Bool.false_and,Bool.true_or,Bool.false_or]|dsimp only)
  have H:=C1.out;clear C1
  by_cases c0:a1<0
  ·rw[if_pos c0]at H;have f0:=decide_eq_true c0;clear c0;(first|rw[f0]|(simp only[i64_w,i32_w];rw[f0])|skip);have H':=Aside0.mk H;clear H;go_wp2
   go_meet
   case rel=>exact⟨_,(true),zr_,H',⟨zo_⟩,⟨(bk_ B0)⟩,⟨zb_⟩⟩
  ·rw[if_neg c0]at H;have f0:=decide_eq_false c0;clear c0;(first|rw[f0]|(simp only[i64_w,i32_w];rw[f0])|skip);have C2:=Aside0.mk H;clear H;obtain⟨_,_,_,_,_,_,_,_,_,_,_,_,_,_⟩:=cells7_ B0.out
   repeat' (first|(go_big_may;(fail))|go_values|go_skip|go_big_skip|go_big_want|((first|(with_reducible refine gate_nog rfl ?_)|(fail_if_success with_reducible refine gate_any ?_));go_step)|go_upon|simp only[Bool.not_true,Bool.not_false,Bool.true_and,Bool.false_and,Bool.true_or,Bool.false_or]|dsimp only)
   have H:=C2.out;clear C2
   by_cases c1:a1>999999
   ·rw[if_pos c1]at H;have f1:=decide_eq_true c1;clear c1;(first|rw[f1]|(simp only[i64_w,i32_w];rw[f1])|skip);have H':=Aside0.mk H;clear H;go_wp2
    go_meet
    case rel=>exact⟨_,(true),zr_,H',⟨zo_⟩,⟨(bk_ B0)⟩,⟨zb_⟩⟩
   ·rw[if_neg c1]at H;have f1:=decide_eq_false c1;clear c1;(first|rw[f1]|(simp only[i64_w,i32_w];rw[f1])|skip);replace H:=bS_ H;obtain⟨t0,A0,H⟩:=H;(try dsimp only at H);have C3:=Aside0.mk H;clear H;obtain⟨_,_,_,_,_,_,_,_,_,_,_,_,_,_⟩:=cells7_ B0.out
    repeat' (first|(go_big_may;(first|(go_at_call 12;(with_reducible refine(spec_l2time.calls a2 t0 _ A0.out).mono ?_);rintro e w' ⟨rfl,⟨nd,rfl⟩⟩)))|go_values|go_skip|go_big_skip|go_big_want|((first|(with_reducible refine gate_nog rfl ?_)|(fail_if_success with_reducible refine gate_any ?_));go_step)|go_upon|simp only[Bool.not_true,Bool.not_false,Bool.true_and,Bool.false_and,Bool.true_or,Bool.false_or]|dsimp only)
    (try simp only[Act.put,List.setIfInBounds_toArray,List.set_cons_zero,List.set_cons_succ]);(try(rw[drewN_self w0];generalize hq_:World.drewN w0 _=w0;replace B0:=dnB_ hq_ B0;replace HB:=dnH_ hq_ HB;clear hq_;obtain⟨_,_,_,_,_,_,_,_,_,_,_,_,_,_⟩:=cells7_ B0.out));have H:=C3.out;clear C3
    by_cases c2:t0=true
    ·subst c2;rw[if_pos rfl]at H;have C4:=Aside0.mk H;clear H;obtain⟨_,_,_,_,_,_,_,_,_,_,_,_,_,_⟩:=cells7_ B0.out
     repeat' (first|(go_big_may;(fail))|go_values|go_skip|go_big_skip|go_big_want|((first|(with_reducible refine gate_nog rfl ?_)|(fail_if_success with_reducible refine gate_any ?_));go_step)|go_upon|simp only[Bool.not_true,Bool.not_false,Bool.true_and,Bool.false_and,Bool.true_or,Bool.false_or]|dsimp only)
     have H:=C4.out;clear C4
     by_cases c3:(a6.size:Int)>4000
     ·rw[if_pos c3]at H;have f2:=decide_eq_true c3;have f3:decide (4000<a6.size)=true:=decide_eq_true zz5;clear c3;(first|rw[f2]|(simp only[i64_w,i32_w];rw[f2])|rw[f3]|(rw[f4];simp only[Bool.not_true,Bool.not_false])|skip);have H':=Aside0.mk H;clear H;go_wp2
      go_meet
      case rel=>exact⟨_,(true),zr_,H',⟨zo_⟩,⟨(bk_ B0)⟩,⟨zb_⟩⟩
     ·rw[if_neg c3]at H;have f2:=decide_eq_false c3;have f3:decide (4000<a6.size)=false:=decide_eq_false zz5;clear c3;(first|rw[f2]|(simp only[i64_w,i32_w];rw[f2])|rw[f3]|(rw[f4];simp only[Bool.not_true,Bool.not_false])|skip);have C5:=Aside0.mk H;clear H;obtain⟨_,_,_,_,_,_,_,_,_,_,_,_,_,_⟩:=cells7_ B0.out
      repeat' (first|(go_big_may;(fail))|go_values|go_skip|go_big_skip|go_big_want|((first|(with_reducible refine gate_nog rfl ?_)|(fail_if_success with_reducible refine gate_any ?_));go_step)|go_upon|simp only[Bool.not_true,Bool.not_false,Bool.true_and,Bool.false_and,Bool.true_or,Bool.false_or]|dsimp only)
      have H:=C5.out;clear C5
      by_cases c4:a0=0
      ·rw[if_pos c4]at H;obtain⟨f5,f6⟩:=bqT_ c4;clear c4;(first|rw[f5]|(simp only[i64_w,i32_w];rw[f5])|rw[f6]|(rw[f7];simp only[Bool.not_true,Bool.not_false])|skip);have H':=Aside0.mk H;clear H;go_wp2
       go_meet
       case rel=>exact⟨_,(false),zr_,H',⟨zo_⟩,⟨(bk_ B0)⟩,⟨zb_⟩⟩
      ·rw[if_neg c4]at H;obtain⟨f5,f6⟩:=bqF_ c4;(first|rw[f5]|(simp only[i64_w,i32_w];rw[f5])|rw[f6]|(rw[f7];simp only[Bool.not_true,Bool.not_false])|skip);replace H:=bS_ H;obtain⟨t1,A1,H⟩:=H;(try dsimp only at H);have H':=Aside0.mk H;clear H;obtain⟨_,_,_,_,_,_,_,_,_,_,_,_,_,_⟩:=cells7_ B0.out;go_wp2_with (first|(go_at_call 13;(with_reducible refine(spec_l8canon.calls k a3 t1 _ A1.out).mono ?_);rintro e w1 ⟨rfl,hb⟩;have n0_:=Aside0.mk (blk_below (bk_ B0) hb);have n1_:=Aside0.mk (below_step zb_ hb);clear B0;clear HB;have B0:=n0_;have HB:=n1_;clear n0_ n1_;(try clear hb)))
       go_meet
       case rel=>exact⟨_,(!t1),zr_,H',⟨zo_⟩,⟨(bk_ B0)⟩,⟨zb_⟩⟩
    ·replace c2:=Bool.eq_false_iff.mpr c2;subst c2;rw[if_neg Bool.false_ne_true]at H;have H':=Aside0.mk H;clear H;go_wp2
     go_meet
     case rel=>exact⟨_,(true),zr_,H',⟨zo_⟩,⟨(bk_ B0)⟩,⟨zb_⟩⟩
 case rest=>
  clear C0;(try clear c5);(try clear p0);(try clear c0);(try clear f0);(try clear c6);(try clear c1);(try clear f1);(try clear c2);(try clear c3);(try clear f2);(try clear f3);(try clear c4);(try clear f5);(try clear f6);(try clear h0);(try clear h1);(try clear h2);(try clear h3);(try clear h4);(try clear h5);(try clear h6);(try clear h7);(try clear h8);(try clear h9);(try clear h10);(try clear h11);(try clear h12);(try clear h13);(try clear h14);(try clear h15);(try clear h16);(try clear h17);(try clear h18);(try clear h19);(try clear h20);(try clear h21);(try clear h22);(try clear h23);(try clear h24);(try clear h25);(try clear h26);(try clear h27);(try clear h28);(try clear h29);(try clear h30);(try clear h31);(try clear h32);(try clear h33);(try clear h34);(try clear h35);(try clear h36);(try clear h37);(try clear h38);(try clear h39);(try clear h40);(try clear h41);(try clear h42);(try clear h43);(try clear h44);(try clear h45);(try clear h46);(try clear h47);(try clear h48);(try clear h49);(try clear h50);(try clear h51);(try clear h52);(try clear h53);(try clear h54);(try clear h55);(try clear h56);(try clear h57);(try clear h58);(try clear h59);(try clear h60);(try clear h61);(try clear h62);(try clear h63);(try clear h64);(try clear h65);(try clear h66);(try clear h67);(try clear h68);(try clear h69);(try clear h70);(try clear h71);(try clear h72);(try clear h73);(try clear h74);(try clear h75);(try clear h76);(try clear h77);(try clear h78);(try clear h79);(try clear h80);(try clear h81);(try clear h82);(try clear h83);obtain⟨kq,x0,rfl,HA,J0,B0,HB⟩:=hcut
  cases kq with
  |zero=>exact absurd HA.out (by simp[spec_RecOk.j0])
  |succ k0=>
   have H:=HA.out;clear HA;simp only[spec_RecOk.j0]at H
   by_cases c7:x0=true
   ·subst c7;rw[if_pos rfl]at H;obtain rfl:=Option.some.inj H;go_wp2
    go_ret;exact⟨ze_,zb_⟩
   ·replace c7:=Bool.eq_false_iff.mpr c7;subst c7;rw[if_neg Bool.false_ne_true]at H;replace H:=bS_ H;obtain⟨⟨t2,t3⟩,A2,H⟩:=H;(try dsimp only at H);have C6:=Aside0.mk H;clear H;obtain⟨_,_,_,_,_,_,_,_,_,_,_,_,_,_⟩:=cells7_ B0.out;go_upto_if 46 with(first|((with_reducible refine gc_ 14 rfl ?_);refine gR 41 Tryz.func14 (spec_Payload.calls k0 a6 t2 t3 _ A2.out) ?_;rintro w' ⟨nd,rfl⟩))
    (try simp only[Act.put,List.setIfInBounds_toArray,List.set_cons_zero,List.set_cons_succ]);(try(rw[drewN_self wc];generalize hq_:World.drewN wc _=wc;replace B0:=dnB_ hq_ B0;replace HB:=dnH_ hq_ HB;clear hq_;obtain⟨_,_,_,_,_,_,_,_,_,_,_,_,_,_⟩:=cells7_ B0.out));have H:=C6.out;clear C6
    by_cases c8:a0=0
    ·rw[if_pos c8]at H;obtain⟨f8,f9⟩:=bqT_ c8;clear c8;(first|rw[f8]|(simp only[i64_w,i32_w];rw[f8])|rw[f9]|(rw[f10];simp only[Bool.not_true,Bool.not_false])|skip);have C7:=Aside0.mk H;clear H;obtain⟨_,_,_,_,_,_,_,_,_,_,_,_,_,_⟩:=cells7_ B0.out
     repeat' (first|(go_big_may;(fail))|go_values|go_skip|go_big_skip|go_big_want|((first|(with_reducible refine gate_nog rfl ?_)|(fail_if_success with_reducible refine gate_any ?_));go_step)|go_upon|simp only[Bool.not_true,Bool.not_false,Bool.true_and,Bool.false_and,Bool.true_or,Bool.false_or]|dsimp only)
     have H:=C7.out;clear C7
     by_cases c9:a3.toList=([]:List UInt8)
     ·rw[if_pos c9]at H;have f11:=beq_iff_eq.mpr c9;have f12:a3.toList.isEmpty=true:=by have hz_:=beq_iff_eq.1 f11;rw[hz_];rfl
      (try rw[f12]);have f13:=bne_eq_false_iff_eq.mpr c9;clear c9;(first|rw[f11]|(simp only[i64_w,i32_w];rw[f11])|rw[f13]|(rw[f14];simp only[Bool.not_true,Bool.not_false])|skip);have C8:=Aside0.mk H;clear H;obtain⟨_,_,_,_,_,_,_,_,_,_,_,_,_,_⟩:=cells7_ B0.out
      repeat' (first|(go_big_may;(fail))|go_values|go_skip|go_big_skip|go_big_want|((first|(with_reducible refine gate_nog rfl ?_)|(fail_if_success with_reducible refine gate_any ?_));go_step)|go_upon|simp only[Bool.not_true,Bool.not_false,Bool.true_and,Bool.false_and,Bool.true_or,Bool.false_or]|dsimp only)
      have H:=C8.out;clear C8
      by_cases c10:a5.toList=([]:List UInt8)
      ·rw[if_pos c10]at H;have f15:=beq_iff_eq.mpr c10;have f16:a5.toList.isEmpty=true:=by have hz_:=beq_iff_eq.1 f15;rw[hz_];rfl
       (try rw[f16]);have f17:=bne_eq_false_iff_eq.mpr c10;clear c10;(first|rw[f15]|(simp only[i64_w,i32_w];rw[f15])|rw[f17]|(rw[f18];simp only[Bool.not_true,Bool.not_false])|skip);obtain rfl:=Option.some.inj H;obtain⟨_,_,_,_,_,_,_,_,_,_,_,_,_,_⟩:=cells7_ B0.out;go_wp2
       go_ret;exact⟨ze_,zb_⟩
      ·rw[if_neg c10]at H;have f15:=beq_eq_false_iff_ne.mpr c10;have f16:a5.toList.isEmpty=false:=by cases hz_:a5.toList with|nil=>(rw[hz_]at f15;exact absurd f15 zz2)|cons _ _=>rfl
       (try rw[f16]);have f17:=bne_iff_ne.mpr c10;(first|rw[f15]|(simp only[i64_w,i32_w];rw[f15])|rw[f17]|(rw[f18];simp only[Bool.not_true,Bool.not_false])|skip);obtain rfl:=Option.some.inj H;go_wp2
       go_ret;exact⟨ze_,zb_⟩
     ·rw[if_neg c9]at H;have f11:=beq_eq_false_iff_ne.mpr c9;have f12:a3.toList.isEmpty=false:=by cases hz_:a3.toList with|nil=>(rw[hz_]at f11;exact absurd f11 zz2)|cons _ _=>rfl
      (try rw[f12]);have f13:=bne_iff_ne.mpr c9;(first|rw[f11]|(simp only[i64_w,i32_w];rw[f11])|rw[f13]|(rw[f14];simp only[Bool.not_true,Bool.not_false])|skip);obtain rfl:=Option.some.inj H;go_wp2
      go_ret;exact⟨ze_,zb_⟩
    ·rw[if_neg c8]at H;obtain⟨f8,f9⟩:=bqF_ c8;(first|rw[f8]|(simp only[i64_w,i32_w];rw[f8])|rw[f9]|(rw[f10];simp only[Bool.not_true,Bool.not_false])|skip)
     by_cases c11:a0=1
     ·rw[if_pos c11]at H;obtain⟨f19,f20⟩:=bqT_ c11;clear c11;have C9:=Aside0.mk H;clear H;obtain⟨_,_,_,_,_,_,_,_,_,_,_,_,_,_⟩:=cells7_ B0.out
      repeat' (first|(go_big_may;(fail))|go_values|go_skip|go_big_skip|go_big_want|((first|(with_reducible refine gate_nog rfl ?_)|(fail_if_success with_reducible refine gate_any ?_));go_step)|go_upon|simp only[Bool.not_true,Bool.not_false,Bool.true_and,Bool.false_and,Bool.true_or,Bool.false_or]|dsimp only)
      have H:=C9.out;clear C9
      by_cases c12:a5.toList=([]:List UInt8)
      ·rw[if_pos c12]at H;have f21:=beq_iff_eq.mpr c12;have f22:a5.toList.isEmpty=true:=by have hz_:=beq_iff_eq.1 f21;rw[hz_];rfl
       (try rw[f22]);have f23:=bne_eq_false_iff_eq.mpr c12;clear c12;(first|rw[f21]|(simp only[i64_w,i32_w];rw[f21])|rw[f23]|(rw[f24];simp only[Bool.not_true,Bool.not_false])|skip);have C10:=Aside0.mk H;clear H;obtain⟨_,_,_,_,_,_,_,_,_,_,_,_,_,_⟩:=cells7_ B0.out
       repeat' (first|(go_big_may;(fail))|go_values|go_skip|go_big_skip|go_big_want|((first|(with_reducible refine gate_nog rfl ?_)|(fail_if_success with_reducible refine gate_any ?_));go_step)|go_upon|simp only[Bool.not_true,Bool.not_false,Bool.true_and,Bool.false_and,Bool.true_or,Bool.false_or]|dsimp only)
       have H:=C10.out;clear C10
       by_cases c13:a4=0
       ·rw[if_pos c13]at H;obtain⟨f25,f26⟩:=bqT_ c13;clear c13;(first|rw[f25]|(simp only[i64_w,i32_w];rw[f25])|rw[f26]|(rw[f27];simp only[Bool.not_true,Bool.not_false])|skip);obtain rfl:=Option.some.inj H;go_wp2
        go_ret;exact⟨ze_,zb_⟩
       ·rw[if_neg c13]at H;obtain⟨f25,f26⟩:=bqF_ c13;(first|rw[f25]|(simp only[i64_w,i32_w];rw[f25])|rw[f26]|(rw[f27];simp only[Bool.not_true,Bool.not_false])|skip);obtain rfl:=Option.some.inj H;go_wp2
        go_ret;exact⟨ze_,zb_⟩
      ·rw[if_neg c12]at H;have f21:=beq_eq_false_iff_ne.mpr c12;have f22:a5.toList.isEmpty=false:=by cases hz_:a5.toList with|nil=>(rw[hz_]at f21;exact absurd f21 zz2)|cons _ _=>rfl
       (try rw[f22]);have f23:=bne_iff_ne.mpr c12;(first|rw[f21]|(simp only[i64_w,i32_w];rw[f21])|rw[f23]|(rw[f24];simp only[Bool.not_true,Bool.not_false])|skip);obtain rfl:=Option.some.inj H;go_wp2
       go_ret;exact⟨ze_,zb_⟩
     ·rw[if_neg c11]at H;obtain⟨f19,f20⟩:=bqF_ c11
      by_cases c14:a0=2
      ·rw[if_pos c14]at H;obtain⟨f28,f29⟩:=bqT_ c14;clear c14
       by_cases c15:a4=0
       ·rw[if_pos c15]at H;obtain⟨f30,f31⟩:=bqT_ c15;clear c15
        by_cases c16:t3=true
        ·subst c16;rw[if_pos rfl]at H;replace H:=bS_ H;obtain⟨t4,A3,H⟩:=H;(try dsimp only at H);obtain rfl:=Option.some.inj H;(try go_wp2);replace B0:=Aside0.mk (blk_drew B0.out);replace HB:=Aside0.mk (below_drew1 HB.out);refine st_ (n:=14) (S:=fun w'=>w'.cell? ⟨g0,0,none⟩=some (.int .i64 a0)∧w'.cell? ⟨g0,1,none⟩=some (.int .i64 a1)∧w'.cell? ⟨g0,2,none⟩=some (.int .i64 a2)∧w'.cell? ⟨g0,3,none⟩=some (.string a3)∧w'.cell? ⟨g0,4,none⟩=some (.int .i64 a4)∧w'.cell? ⟨g0,5,none⟩=some (.string a5)∧w'.cell? ⟨g0,6,none⟩=some (.string a6)) (ds:= []) (hold7_ B0.out) (fun hHeld=>?_);refine with_tabW spec_RecOk.tab10 spec_RecOk.bits10 (fun HT_ HW_=>?_);generalize wc.drew=w2 at B0 HB hHeld ⊢;refine pz 0 76 ?_;refine tk3_ 1 77 hHeld ?_;refine pz 2 78 ?_;refine pz 3 79 ?_;refine pz 4 80 ?_;refine pz 5 81 ?_;refine pz 6 82 ?_;refine pz 7 83 ?_;refine pz 9 85 ?_;refine tk3_ 8 84 hHeld ?_;refine oZ 10 86 Tryz.func15 (spec_Label.calls k0 t2 t4 _ A3.out) (fun K hK=>?_);rintro w3 hb;replace B0:=Aside0.mk (blk_below (bk_ B0) hb);replace HB:=Aside0.mk (below_step zb_ hb);(try clear hb);refine hK.out _ _ (hold7_ B0.out) (fun hHeld=>?_);clear hK K;refine nz ?_;refine pz 11 87 ?_;refine pz 12 88 ?_;refine pz 13 2 ?_;refine done_ (done_of HT_.out zz0) ?_;(try go_wp2);go_ret;exact⟨ze_,zb_⟩
        ·replace c16:=Bool.eq_false_iff.mpr c16;subst c16;rw[if_neg Bool.false_ne_true]at H;obtain rfl:=Option.some.inj H;(try go_wp2);replace B0:=Aside0.mk (blk_drew B0.out);replace HB:=Aside0.mk (below_drew1 HB.out);refine st_ (n:=14) (S:=fun w'=>w'.cell? ⟨g0,0,none⟩=some (.int .i64 a0)∧w'.cell? ⟨g0,1,none⟩=some (.int .i64 a1)∧w'.cell? ⟨g0,2,none⟩=some (.int .i64 a2)∧w'.cell? ⟨g0,3,none⟩=some (.string a3)∧w'.cell? ⟨g0,4,none⟩=some (.int .i64 a4)∧w'.cell? ⟨g0,5,none⟩=some (.string a5)∧w'.cell? ⟨g0,6,none⟩=some (.string a6)) (ds:= []) (hold7_ B0.out) (fun hHeld=>?_);refine with_tabW spec_RecOk.tab10 spec_RecOk.bits10 (fun HT_ HW_=>?_);generalize wc.drew=w4 at B0 HB hHeld ⊢;refine pz 0 76 ?_;refine tk3_ 1 77 hHeld ?_;refine pz 2 78 ?_;refine pz 3 79 ?_;refine pz 4 80 ?_;refine pz 5 81 ?_;refine pz 6 82 ?_;refine pu 7 83 ?_;refine pu 8 84 ?_;refine pu 9 85 ?_;refine pu 10 86 ?_;refine pu 11 87 ?_;refine pz 12 88 ?_;refine pz 13 2 ?_;refine done_ (done_of HT_.out zz0) ?_;(try go_wp2);go_ret;exact⟨ze_,zb_⟩
       ·rw[if_neg c15]at H;obtain⟨f30,f31⟩:=bqF_ c15;obtain rfl:=Option.some.inj H;(try go_wp2);replace B0:=Aside0.mk (blk_drew B0.out);replace HB:=Aside0.mk (below_drew1 HB.out);refine st_ (n:=14) (S:=fun w'=>w'.cell? ⟨g0,0,none⟩=some (.int .i64 a0)∧w'.cell? ⟨g0,1,none⟩=some (.int .i64 a1)∧w'.cell? ⟨g0,2,none⟩=some (.int .i64 a2)∧w'.cell? ⟨g0,3,none⟩=some (.string a3)∧w'.cell? ⟨g0,4,none⟩=some (.int .i64 a4)∧w'.cell? ⟨g0,5,none⟩=some (.string a5)∧w'.cell? ⟨g0,6,none⟩=some (.string a6)) (ds:= []) (hold7_ B0.out) (fun hHeld=>?_);refine with_tabW spec_RecOk.tab10 spec_RecOk.bits10 (fun HT_ HW_=>?_);generalize wc.drew=w5 at B0 HB hHeld ⊢;refine pz 0 76 ?_;refine tk3_ 1 77 hHeld ?_;refine pz 2 78 ?_;refine pz 3 79 ?_;refine pu 4 80 ?_;refine pz 5 81 ?_;refine pz 6 82 ?_;refine pu 7 83 ?_;refine pu 8 84 ?_;refine pu 9 85 ?_;refine pu 10 86 ?_;refine pu 11 87 ?_;refine pz 12 88 ?_;refine pz 13 2 ?_;refine done_ (done_of HT_.out zz0) ?_;(try go_wp2);go_ret;exact⟨ze_,zb_⟩
      ·rw[if_neg c14]at H;obtain⟨f28,f29⟩:=bqF_ c14
       by_cases c17:a0=3
       ·rw[if_pos c17]at H;obtain⟨f32,f33⟩:=bqT_ c17;clear c17;replace H:=bS_ H;obtain⟨⟨t5,t6⟩,A4,H⟩:=H;(try dsimp only at H);have C11:=Aside0.mk H;clear H;obtain⟨_,_,_,_,_,_,_,_,_,_,_,_,_,_⟩:=cells7_ B0.out
        repeat' (first|(go_big_may;(first|((with_reducible refine gc_ 16 rfl ?_);refine gR 94 Tryz.func16 (spec_ReadLabel.calls k0 a5 t5 t6 _ A4.out) ?_;rintro w6 hb;replace B0:=Aside0.mk (blk_below (bk_ B0) hb);replace HB:=Aside0.mk (below_step zb_ hb);(try clear hb);obtain⟨_,_,_,_,_,_,_,_,_,_,_,_,_,_⟩:=cells7_ B0.out)))|go_values|go_skip|go_big_skip|go_big_want|((first|(with_reducible refine gate_nog rfl ?_)|(fail_if_success with_reducible refine gate_any ?_));go_step)|go_upon|simp only[Bool.not_true,Bool.not_false,Bool.true_and,Bool.false_and,Bool.true_or,Bool.false_or]|dsimp only)
        (try simp only[Act.put,List.setIfInBounds_toArray,List.set_cons_zero,List.set_cons_succ]);have H:=C11.out;clear C11
        by_cases c18:a4≥1
        ·rw[if_pos c18]at H;have f34:=decide_eq_true c18;clear c18;(first|rw[f34]|(simp only[i64_w,i32_w];rw[f34])|skip);have C12:=Aside0.mk H;clear H;obtain⟨_,_,_,_,_,_,_,_,_,_,_,_,_,_⟩:=cells7_ B0.out
         repeat' (first|(go_big_may;(fail))|go_values|go_skip|go_big_skip|go_big_want|((first|(with_reducible refine gate_nog rfl ?_)|(fail_if_success with_reducible refine gate_any ?_));go_step)|go_upon|simp only[Bool.not_true,Bool.not_false,Bool.true_and,Bool.false_and,Bool.true_or,Bool.false_or]|dsimp only)
         have H:=C12.out;clear C12
         by_cases c19:a4<a1
         ·rw[if_pos c19]at H;have f35:=decide_eq_true c19;clear c19;(first|rw[f35]|(simp only[i64_w,i32_w];rw[f35])|skip)
          by_cases c20:t6=true
          ·subst c20;rw[if_pos rfl]at H
           by_cases c21:t3=true
           ·subst c21;rw[if_pos rfl]at H;obtain rfl:=Option.some.inj H;go_wp2
            go_ret;exact⟨ze_,zb_⟩
           ·replace c21:=Bool.eq_false_iff.mpr c21;subst c21;rw[if_neg Bool.false_ne_true]at H;obtain rfl:=Option.some.inj H;go_wp2
            go_ret;exact⟨ze_,zb_⟩
          ·replace c20:=Bool.eq_false_iff.mpr c20;subst c20;rw[if_neg Bool.false_ne_true]at H;obtain rfl:=Option.some.inj H;go_wp2
           go_ret;exact⟨ze_,zb_⟩
         ·rw[if_neg c19]at H;have f35:=decide_eq_false c19;clear c19;(first|rw[f35]|(simp only[i64_w,i32_w];rw[f35])|skip);obtain rfl:=Option.some.inj H;go_wp2
          go_ret;exact⟨ze_,zb_⟩
        ·rw[if_neg c18]at H;have f34:=decide_eq_false c18;clear c18;(first|rw[f34]|(simp only[i64_w,i32_w];rw[f34])|skip);obtain rfl:=Option.some.inj H;go_wp2
         go_ret;exact⟨ze_,zb_⟩
       ·rw[if_neg c17]at H;obtain⟨f32,f33⟩:=bqF_ c17
        by_cases c22:a0=4
        ·rw[if_pos c22]at H;obtain⟨f36,f37⟩:=bqT_ c22;clear c22;have C13:=Aside0.mk H;clear H;obtain⟨_,_,_,_,_,_,_,_,_,_,_,_,_,_⟩:=cells7_ B0.out
         repeat' (first|(go_big_may;(fail))|go_values|go_skip|go_big_skip|go_big_want|((first|(with_reducible refine gate_nog rfl ?_)|(fail_if_success with_reducible refine gate_any ?_));go_step)|go_upon|simp only[Bool.not_true,Bool.not_false,Bool.true_and,Bool.false_and,Bool.true_or,Bool.false_or]|dsimp only)
         have H:=C13.out;clear C13
         by_cases c23:a5.toList=([]:List UInt8)
         ·rw[if_pos c23]at H;have f38:=beq_iff_eq.mpr c23;have f39:a5.toList.isEmpty=true:=by have hz_:=beq_iff_eq.1 f38;rw[hz_];rfl
          (try rw[f39]);have f40:=bne_eq_false_iff_eq.mpr c23;clear c23;(first|rw[f38]|(simp only[i64_w,i32_w];rw[f38])|rw[f40]|(rw[f41];simp only[Bool.not_true,Bool.not_false])|skip);obtain rfl:=Option.some.inj H;obtain⟨_,_,_,_,_,_,_,_,_,_,_,_,_,_⟩:=cells7_ B0.out;go_wp2
          go_ret;exact⟨ze_,zb_⟩
         ·rw[if_neg c23]at H;have f38:=beq_eq_false_iff_ne.mpr c23;have f39:a5.toList.isEmpty=false:=by cases hz_:a5.toList with|nil=>(rw[hz_]at f38;exact absurd f38 zz2)|cons _ _=>rfl
          (try rw[f39]);have f40:=bne_iff_ne.mpr c23;(first|rw[f38]|(simp only[i64_w,i32_w];rw[f38])|rw[f40]|(rw[f41];simp only[Bool.not_true,Bool.not_false])|skip);obtain rfl:=Option.some.inj H;go_wp2
          go_ret;exact⟨ze_,zb_⟩
        ·rw[if_neg c22]at H;obtain⟨f36,f37⟩:=bqF_ c22;obtain rfl:=Option.some.inj H;go_wp2
         go_ret;exact⟨ze_,zb_⟩
end Go.Proofs.YthmehmehoehlpaaGreatDoor.GFnExactRecText
