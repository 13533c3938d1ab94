-- Printed by gen.py and its programs for this claim.
import Derived.Test.YthmehmehoehlpaaGreatDoorGFnExactRecTextx0
import Derived.Test.YthmehmehoehlpaaGreatDoorGFnExactRecTextx1
import Derived.Test.YthmehmehoehlpaaGreatDoorGFnExactRecTextx2
import Derived.Test.YthmehmehoehlpaaGreatDoorGFnExactRecTextx4
import Derived.Test.YthmehmehoehlpaaGreatDoorGFnExactRecTextx6
import Derived.Test.YthmehmehoehlpaaGreatDoorZFnExactRecText
namespace Go.Proofs.YthmehmehoehlpaaGreatDoor.GFnExactRecText
open Go.RowKit Go.Proofs.YthmehmehoehlpaaGreatDoorW.PrintWords Go.Proofs.YthmehmehoehlpaaGreatDoorW.PrintLast Go.Proofs.YthmehmehoehlpaaGreatDoorW.PrintMore Go.Proofs.YthmehmehoehlpaaGreatDoorW.Zs
set_option maxHeartbeats 40000000
set_option maxRecDepth 100000
attribute [local go_sem] max2_int min2_int max_two min_two max_three min_three max_four min_four
set_option linter.unusedVariables false
set_option linter.unusedSimpArgs false
mutual
def spec_ReadUrl.j0:Nat→ByteArray→Bool→Option (ByteArray×Int×ByteArray×ByteArray×Bool×Bool)
 |0,_,_=>none
 |k+1,x0,x1=>if x1=true then(some ((⟨#[]⟩:ByteArray),0,(⟨#[]⟩:ByteArray),(⟨#[]⟩:ByteArray),false,false))else(if 7≤(x0.size:Int)then((spec_l6upto.f k (x0.extract 7 x0.size) 63).bind fun t0=>((spec_l6upto.f k t0 47).bind fun t1=>((spec_l6upto.f k t1 58).bind fun t2=>((spec_Fold.f t2).bind fun t3=>(if(t2.size:Int)<(t1.size:Int)then(if 0≤(wrap64 ((t2.size:Int)+1))then(if(wrap64 ((t2.size:Int)+1))≤(t1.size:Int)then((spec_ReadDec.f k (t1.extract ((wrap64 ((t2.size:Int)+1)):Int).toNat t1.size)).bind fun b0=>(if b0.2=true then(spec_ReadUrl.j1 k (x0.extract 7 x0.size) t0 t1 t3 b0.1 (⟨#[47]⟩:ByteArray) (⟨#[]⟩:ByteArray) false)else(some ((⟨#[]⟩:ByteArray),0,(⟨#[]⟩:ByteArray),(⟨#[]⟩:ByteArray),false,false))))else(none))else(none))else(spec_ReadUrl.j1 k (x0.extract 7 x0.size) t0 t1 t3 80 (⟨#[47]⟩:ByteArray) (⟨#[]⟩:ByteArray) false))))))else(none))
def spec_ReadUrl.j1:Nat→ByteArray→ByteArray→ByteArray→ByteArray→Int→ByteArray→ByteArray→Bool→Option (ByteArray×Int×ByteArray×ByteArray×Bool×Bool)
 |0,_,_,_,_,_,_,_,_=>none
 |k+1,x0,x1,x2,x3,x4,x5,x6,x7=>if(x2.size:Int)<(x1.size:Int)then(if 0≤(x2.size:Int)then(if(x2.size:Int)≤(x1.size:Int)then((spec_CleanPath.f k (x1.extract ((x2.size:Int):Int).toNat x1.size)).bind fun t0=>(spec_ReadUrl.j2 k x0 x1 x3 x4 t0 x6 x7))else(none))else(none))else(spec_ReadUrl.j2 k x0 x1 x3 x4 x5 x6 x7)
def spec_ReadUrl.j2:Nat→ByteArray→ByteArray→ByteArray→Int→ByteArray→ByteArray→Bool→Option (ByteArray×Int×ByteArray×ByteArray×Bool×Bool)
 |0,_,_,_,_,_,_,_=>none
 |k+1,x0,x1,x2,x3,x4,x5,x6=>if(x1.size:Int)<(x0.size:Int)then(if 0≤(wrap64 ((x1.size:Int)+1))then(if(wrap64 ((x1.size:Int)+1))≤(x0.size:Int)then((spec_UrlOk.f k x2 x3 x4 (x0.extract ((wrap64 ((x1.size:Int)+1)):Int).toNat x0.size) true).bind fun t0=>(if t0=true then(some (x2,x3,x4,x0.extract ((wrap64 ((x1.size:Int)+1)):Int).toNat x0.size,true,true))else(some ((⟨#[]⟩:ByteArray),0,(⟨#[]⟩:ByteArray),(⟨#[]⟩:ByteArray),false,false))))else(none))else(none))else((spec_UrlOk.f k x2 x3 x4 x5 x6).bind fun t1=>(if t1=true then(some (x2,x3,x4,x5,x6,true))else(some ((⟨#[]⟩:ByteArray),0,(⟨#[]⟩:ByteArray),(⟨#[]⟩:ByteArray),false,false))))
end
def spec_ReadUrl.f (k:Nat) (a0:ByteArray):Option (ByteArray×Int×ByteArray×ByteArray×Bool×Bool):=if(a0.size:Int)>200 then(spec_ReadUrl.j0 k a0 true)else(if(a0.size:Int)<8 then(spec_ReadUrl.j0 k a0 true)else((spec_l6visible.f k a0).bind fun t0=>(if t0=true then((spec_l6upto.f k a0 35).bind fun t1=>(if t1.toList=a0.toList then(if 0≤7 then(if 7≤(a0.size:Int)then((spec_Fold.f (a0.extract 0 7)).bind fun t2=>(spec_ReadUrl.j0 k a0 (t2.toList !=([104,116,116,112,58,47,47]:List UInt8))))else(none))else(none))else(spec_ReadUrl.j0 k a0 true)))else(spec_ReadUrl.j0 k a0 true))))
theorem spec_ReadUrl.calls (k:Nat) (a0 r1:ByteArray) (r2:Int) (r3 r4:ByteArray) (r5 r6:Bool) (w:World) (H:spec_ReadUrl.f k a0=some (r1,r2,r3,r4,r5,r6)):
  Calls Tryz.prog 52 #[.string a0] w fun e w'=>e= .returned (.tuple #[.agg #[.string r1,.int .i64 r2,.string r3,.string r4,.bool r5],.bool r6])∧Below w.heap.size w w':=by
 have hu63:=Tryz.underlying63;have HB:=Aside0.mk (Below.refl w.heap.size w);unfold spec_ReadUrl.f at H;have C0:=Aside0.mk H;clear H;go_enter Tryz.func52,Tryz.ntmps52
 go_upto_region 1 with(first|((with_reducible refine gate_dst (N:=2) rfl ?_);(try(refine gate_guard (by rfl) ?_;dsimp only));refine boxP_ (N:=2) (cs:= #[.string (⟨#[]⟩:ByteArray),.int .i64 0,.string (⟨#[]⟩:ByteArray),.string (⟨#[]⟩:ByteArray),.bool false]) (t:=63) ?_;intro g0 hg w0 hbox hb;have B0:=Aside0.mk (hbox);have G0:=geb_ (w:=w) hg zb_;replace HB:=Aside0.mk (below_step zb_ hb);clear hb hbox hg))
 (try simp only[Act.put,List.setIfInBounds_toArray,List.set_cons_zero,List.set_cons_succ]);go_cut [35] (fun v0 wc=> ∃(kq:Nat) (x0:Bool),v0= .bool x0∧Aside0 (spec_ReadUrl.j0 kq a0 x0=some (r1,r2,r3,r4,r5,r6))∧Aside0 (kq≤k)∧Aside0 (wc.heap[g0]?=some (.cells #[.string (⟨#[]⟩:ByteArray),.int .i64 0,.string (⟨#[]⟩:ByteArray),.string (⟨#[]⟩:ByteArray),.bool false] 63 (0,0)))∧Aside0 (Below w.heap.size w wc))
 case first=>
  have H:=C0.out;clear C0
  by_cases c0:(a0.size:Int)>200
  ·rw[if_pos c0]at H;have f0:=decide_eq_true c0;have f1:decide (200<a0.size)=true:=decide_eq_true zz5;clear c0;(first|rw[f0]|(simp only[i64_w,i32_w];rw[f0])|rw[f1]|(rw[f2];simp only[Bool.not_true,Bool.not_false])|skip);have H':=Aside0.mk H;clear H;go_wp2
   go_meet
   case rel=>exact⟨_,(true),zr_,H',⟨zo_⟩,⟨(bk_ B0)⟩,⟨zb_⟩⟩
  ·rw[if_neg c0]at H;have f0:=decide_eq_false c0;have f1:decide (200<a0.size)=false:=decide_eq_false zz5;clear c0;(first|rw[f0]|(simp only[i64_w,i32_w];rw[f0])|rw[f1]|(rw[f2];simp only[Bool.not_true,Bool.not_false])|skip)
   by_cases c1:(a0.size:Int)<8
   ·rw[if_pos c1]at H;have f3:=decide_eq_true c1;have f4:decide (a0.size<8)=true:=decide_eq_true zz5;clear c1;have H':=Aside0.mk H;clear H;go_wp2
    go_meet
    case rel=>exact⟨_,(true),zr_,H',⟨zo_⟩,⟨(bk_ B0)⟩,⟨zb_⟩⟩
   ·rw[if_neg c1]at H;have f3:=decide_eq_false c1;have f4:decide (a0.size<8)=false:=decide_eq_false zz5;clear c1;replace H:=bS_ H;obtain⟨t0,A0,H⟩:=H;(try dsimp only at H);have C1:=Aside0.mk H;clear H
    repeat' (first|(go_big_may;(first|(go_at_call 73;(with_reducible refine(spec_l6visible.calls k a0 t0 _ A0.out).mono ?_);rintro e w' ⟨rfl,⟨nd,rfl⟩⟩)))|go_values|go_skip|go_big_skip|go_big_want|((first|(with_reducible refine gate_nog rfl ?_)|(fail_if_success with_reducible refine gate_any ?_));go_step)|go_upon|simp only[Bool.not_true,Bool.not_false,Bool.true_and,Bool.false_and,Bool.true_or,Bool.false_or]|dsimp only)
    (try simp only[Act.put,List.setIfInBounds_toArray,List.set_cons_zero,List.set_cons_succ]);(try(rw[drewN_self w0];generalize hq_:World.drewN w0 _=w0;replace B0:=dnB_ hq_ B0;replace HB:=dnH_ hq_ HB;clear hq_;obtain⟨_,_,_,_,_,_,_,_,_,_⟩:=cells5_ B0.out));have H:=C1.out;clear C1
    by_cases c2:t0=true
    ·subst c2;rw[if_pos rfl]at H;replace H:=bS_ H;obtain⟨t1,A1,H⟩:=H;(try dsimp only at H);have C2:=Aside0.mk H;clear H
     repeat' (first|(go_big_may;(first|(go_at_call 74;(with_reducible refine(spec_l6upto.calls k a0 35 t1 _ A1.out).mono ?_);rintro e w' ⟨rfl,⟨nd,rfl⟩⟩)))|go_values|go_skip|go_big_skip|go_big_want|((first|(with_reducible refine gate_nog rfl ?_)|(fail_if_success with_reducible refine gate_any ?_));go_step)|go_upon|simp only[Bool.not_true,Bool.not_false,Bool.true_and,Bool.false_and,Bool.true_or,Bool.false_or]|dsimp only)
     (try simp only[Act.put,List.setIfInBounds_toArray,List.set_cons_zero,List.set_cons_succ]);(try(rw[drewN_self w0];generalize hq_:World.drewN w0 _=w0;replace B0:=dnB_ hq_ B0;replace HB:=dnH_ hq_ HB;clear hq_;obtain⟨_,_,_,_,_,_,_,_,_,_⟩:=cells5_ B0.out));have H:=C2.out;clear C2
     by_cases c3:t1.toList=a0.toList
     ·rw[if_pos c3]at H;obtain⟨f5,f6⟩:=bqT_ c3;clear c3;(first|rw[f5]|(simp only[i64_w,i32_w];rw[f5])|rw[f6]|(rw[f7];simp only[Bool.not_true,Bool.not_false])|skip)
      replace H:=ifS_ H;obtain⟨c4,H⟩:=H;obtain⟨f8,f9⟩:=dT_ c4;clear c4
      replace H:=ifS_ H;obtain⟨c5,H⟩:=H;obtain⟨f10,f11⟩:=dT_ c5;clear c5;replace H:=bS_ H;obtain⟨t2,A2,H⟩:=H;(try dsimp only at H);have H':=Aside0.mk H;clear H;go_wp2_with (first|(go_at_call 75;(with_reducible refine(spec_Fold.calls (a0.extract 0 7) t2 _ A2.out).mono ?_);rintro e w1 ⟨rfl,hb⟩;have n0_:=Aside0.mk (blk_below (bk_ B0) hb);have n1_:=Aside0.mk (below_step zb_ hb);clear B0;clear HB;have B0:=n0_;have HB:=n1_;clear n0_ n1_;(try clear hb)))
      go_meet
      case rel=>exact⟨_,((t2.toList !=([104,116,116,112,58,47,47]:List UInt8))),zr_,H',⟨zo_⟩,⟨(bk_ B0)⟩,⟨zb_⟩⟩
     ·rw[if_neg c3]at H;obtain⟨f5,f6⟩:=bqF_ c3;(first|rw[f5]|(simp only[i64_w,i32_w];rw[f5])|rw[f6]|(rw[f7];simp only[Bool.not_true,Bool.not_false])|skip);have H':=Aside0.mk H;clear H;go_wp2
      go_meet
      case rel=>exact⟨_,(true),zr_,H',⟨zo_⟩,⟨(bk_ B0)⟩,⟨zb_⟩⟩
    ·replace c2:=Bool.eq_false_iff.mpr c2;subst c2;rw[if_neg Bool.false_ne_true]at H;have H':=Aside0.mk H;clear H;go_wp2
     go_meet
     case rel=>exact⟨_,(true),zr_,H',⟨zo_⟩,⟨(bk_ B0)⟩,⟨zb_⟩⟩
 case rest=>
  clear C0;(try clear c6);(try clear p0);(try clear c0);(try clear f0);(try clear f1);(try clear c1);(try clear f3);(try clear f4);(try clear c2);(try clear c3);(try clear f5);(try clear f6);(try clear c4);(try clear f8);(try clear f9);(try clear c5);(try clear f10);(try clear f11);obtain⟨kq,x0,rfl,HA,J0,B0,HB⟩:=hcut
  cases kq with
  |zero=>exact absurd HA.out (by simp[spec_ReadUrl.j0])
  |succ k0=>
   have H:=HA.out;clear HA;simp only[spec_ReadUrl.j0]at H
   by_cases c7:x0=true
   ·subst c7;rw[if_pos rfl]at H;simp only[Option.some.injEq,Prod.mk.injEq]at H;obtain⟨rfl,rfl,rfl,rfl,rfl,rfl⟩:=H;obtain⟨_,_,_,_,_,_,_,_,_,_⟩:=cells5_ B0.out;go_wp2
    refine bodyPost_ret (results_ct rfl _ _ g0 63 #[.string (⟨#[]⟩:ByteArray),.int .i64 0,.string (⟨#[]⟩:ByteArray),.string (⟨#[]⟩:ByteArray),.bool false] (0,0) _ rfl (bk_ B0) Tryz.underlying63 rfl zz0) rfl ?_;exact⟨ze_,zb_⟩
   ·replace c7:=Bool.eq_false_iff.mpr c7;subst c7;rw[if_neg Bool.false_ne_true]at H
    replace H:=ifS_ H;obtain⟨c8,H⟩:=H;obtain⟨f12,f13⟩:=dT_ c8;clear c8;replace H:=bS_ H;obtain⟨t3,A3,H⟩:=H;(try dsimp only at H);replace H:=bS_ H;obtain⟨t4,A4,H⟩:=H;(try dsimp only at H);replace H:=bS_ H;obtain⟨t5,A5,H⟩:=H;(try dsimp only at H);replace H:=bS_ H;obtain⟨t6,A6,H⟩:=H;(try dsimp only at H);have C3:=Aside0.mk H;clear H;go_upto_if 52 with(first|((with_reducible refine gc_ 74 rfl ?_);refine gR 40 Tryz.func74 (spec_l6upto.calls k0 (a0.extract 7 a0.size) 63 t3 _ A3.out) ?_;rintro w' ⟨nd,rfl⟩;(try(rw[drewN_self wc];generalize hq_:World.drewN wc _=wc;replace B0:=dnB_ hq_ B0;replace HB:=dnH_ hq_ HB;clear hq_;obtain⟨_,_,_,_,_,_,_,_,_,_⟩:=cells5_ B0.out)))|((with_reducible refine gc_ 74 rfl ?_);refine gR 42 Tryz.func74 (spec_l6upto.calls k0 t3 47 t4 _ A4.out) ?_;rintro w' ⟨nd,rfl⟩;(try(rw[drewN_self wc];generalize hq_:World.drewN wc _=wc;replace B0:=dnB_ hq_ B0;replace HB:=dnH_ hq_ HB;clear hq_;obtain⟨_,_,_,_,_,_,_,_,_,_⟩:=cells5_ B0.out)))|((with_reducible refine gc_ 74 rfl ?_);refine gR 44 Tryz.func74 (spec_l6upto.calls k0 t4 58 t5 _ A5.out) ?_;rintro w' ⟨nd,rfl⟩;(try(rw[drewN_self wc];generalize hq_:World.drewN wc _=wc;replace B0:=dnB_ hq_ B0;replace HB:=dnH_ hq_ HB;clear hq_;obtain⟨_,_,_,_,_,_,_,_,_,_⟩:=cells5_ B0.out)))|((with_reducible refine gc_ 75 rfl ?_);refine gR 46 Tryz.func75 (spec_Fold.calls t5 t6 _ A6.out) ?_;rintro w2 hb;replace B0:=Aside0.mk (blk_below (bk_ B0) hb);replace HB:=Aside0.mk (below_step zb_ hb);(try clear hb))|((with_reducible refine gate_dst (N:=8) rfl ?_);(try(refine gate_guard (by rfl) ?_;dsimp only));refine boxP_ (N:=8) (cs:= #[.string (⟨#[]⟩:ByteArray),.int .i64 0,.string (⟨#[]⟩:ByteArray),.string (⟨#[]⟩:ByteArray),.bool false]) (t:=63) ?_;intro g1 hg w3 hbox hb;have B1:=Aside0.mk (hbox);have G1:=geb_ (w:=w) hg zb_;replace HB:=Aside0.mk (below_step zb_ hb);have N0:=nbL_ (g:=g0) hg (bk_ B0);have N1:=nbG_ (g:=g0) hg (bk_ B0);replace B0:=Aside0.mk (blk_below (bk_ B0) hb);clear hb hbox hg;have n0:=N1.out;have n1:=N0.out;obtain⟨_,_,_,_,_,_,_,_,_,_⟩:=cells5_ B1.out))
    (try simp only[Act.put,List.setIfInBounds_toArray,List.set_cons_zero,List.set_cons_succ]);go_cut [] (fun wc=> ∃(kq:Nat) (x1:ByteArray) (x2:Int) (x3 x4:ByteArray) (x5:Bool) (x6:Int),Aside0 (spec_ReadUrl.j1 kq (a0.extract 7 a0.size) t3 t4 t6 x6 (⟨#[47]⟩:ByteArray) (⟨#[]⟩:ByteArray) false=some (r1,r2,r3,r4,r5,r6))∧Aside0 (kq≤k0)∧Aside0 (wc.heap[g0]?=some (.cells #[.string x1,.int .i64 x2,.string x3,.string x4,.bool x5] 63 (0,0)))∧Aside0 (wc.heap[g1]?=some (.cells #[.string t6,.int .i64 x6,.string (⟨#[47]⟩:ByteArray),.string (⟨#[]⟩:ByteArray),.bool false] 63 (0,0)))∧Aside0 (Below w.heap.size w wc))
    case first=>
     have H:=C3.out;clear C3
     by_cases c9:(t5.size:Int)<(t4.size:Int)
     ·rw[if_pos c9]at H;have f14:=decide_eq_true c9;have f15:decide (t5.size<t4.size)=true:=decide_eq_true (Int.ofNat_lt.mp c9);have c28b2_:(t5.size<t4.size)=True:=eq_true (of_decide_eq_true f15);clear c9;(first|rw[f14]|(simp only[i64_w,i32_w];rw[f14])|rw[f15]|skip);generalize h0:(wrap64 ((t5.size:Int)+1))=j3 at H
      have h1:(IntKind.i64.wrap ((t5.size:Int)+1))=j3:=(i64_w _).trans h0
      replace H:=ifS_ H;obtain⟨c10,H⟩:=H;obtain⟨f16,f17⟩:=dT_ c10;clear c10
      replace H:=ifS_ H;obtain⟨c11,H⟩:=H;obtain⟨f18,f19⟩:=dT_ c11;clear c11;replace H:=bS_ H;obtain⟨⟨t7,t8⟩,A7,H⟩:=H;(try dsimp only at H);have C4:=Aside0.mk H;clear H;go_upto_if 63 with(first|((with_reducible refine gc_ 76 rfl ?_);refine goesL_ (some 59) rfl rfl Tryz.func76 zz0 rfl #[.string (t4.extract ((j3):Int).toNat t4.size)] rfl (by(try simp only[List.map_toArray,List.map_cons,List.map_nil]);first|done|(simp only[h0];rfl)|rfl|(simp only[List.length_drop,List.length_take];rfl)) ?_;(with_reducible refine(spec_ReadDec.calls k0 (t4.extract ((j3):Int).toNat t4.size) t7 t8 _ A7.out).mono ?_);rintro e w4 ⟨rfl,hb⟩;refine⟨_,rfl,?_⟩;replace B0:=Aside0.mk (blk_below (g:=g0) (o:= .cells #[.string (⟨#[]⟩:ByteArray),.int .i64 0,.string (⟨#[]⟩:ByteArray),.string (⟨#[]⟩:ByteArray),.bool false] 63 (0,0)) (bk_ B0) hb);replace B1:=Aside0.mk (blk_below (g:=g1) (o:= .cells #[.string t6,.int .i64 80,.string (⟨#[47]⟩:ByteArray),.string (⟨#[]⟩:ByteArray),.bool false] 63 (0,0)) (bk_ B1) hb);replace HB:=Aside0.mk (below_step zb_ hb);(try clear hb)))
      (try simp only[Act.put,List.setIfInBounds_toArray,List.set_cons_zero,List.set_cons_succ]);have H:=C4.out;clear C4
      by_cases c12:t8=true
      ·subst c12;rw[if_pos rfl]at H;have H':=Aside0.mk H;clear H;have n2:=N1.out;have n3:=N0.out;obtain⟨_,_,_,_,_,_,_,_,_,_⟩:=cells5_ B1.out;go_wp2
       go_meet
       case rel=>exact⟨_,((⟨#[]⟩:ByteArray)),(0),((⟨#[]⟩:ByteArray)),((⟨#[]⟩:ByteArray)),(false),(t7),H',⟨zz23⟩,⟨(bk_ B0)⟩,⟨by(with_reducible repeat(first|refine blk_drewN ?_ _|refine blk_drew ?_|refine blk_alloc ?_ _));refine blk_put (cs:= #[.string t6,.int .i64 80,.string (⟨#[47]⟩:ByteArray),.string (⟨#[]⟩:ByteArray),.bool false]) ?_ 1 _ rfl;(with_reducible repeat(first|refine blk_drewN ?_ _|refine blk_drew ?_|refine blk_alloc ?_ _));exact B1.out⟩,⟨zb_⟩⟩
      ·replace c12:=Bool.eq_false_iff.mpr c12;subst c12;rw[if_neg Bool.false_ne_true]at H;simp only[Option.some.injEq,Prod.mk.injEq]at H;obtain⟨rfl,rfl,rfl,rfl,rfl,rfl⟩:=H;have n4:=N0.out;have n5:=N1.out;obtain⟨_,_,_,_,_,_,_,_,_,_⟩:=cells5_ B0.out;go_wp2
       refine bodyPost_ret (results_ct rfl _ _ g0 63 #[.string (⟨#[]⟩:ByteArray),.int .i64 0,.string (⟨#[]⟩:ByteArray),.string (⟨#[]⟩:ByteArray),.bool false] (0,0) _ rfl (bk_ B0) Tryz.underlying63 rfl zz0) rfl ?_;exact⟨zz13,zb_⟩
     ·rw[if_neg c9]at H;have f14:=decide_eq_false c9;have f15:decide (t5.size<t4.size)=false:=decide_eq_false (fun h=>c9 (Int.ofNat_lt.mpr h));have c28b2_:(t5.size<t4.size)=False:=eq_false (of_decide_eq_false f15);clear c9;(first|rw[f14]|(simp only[i64_w,i32_w];rw[f14])|rw[f15]|skip);have H':=Aside0.mk H;clear H;go_wp2
      go_meet
      case rel=>exact⟨_,((⟨#[]⟩:ByteArray)),(0),((⟨#[]⟩:ByteArray)),((⟨#[]⟩:ByteArray)),(false),(80),H',⟨zz23⟩,⟨(bk_ B0)⟩,⟨(bk_ B1)⟩,⟨zb_⟩⟩
    case rest=>
     generalize h2:a0.extract 7 a0.size=x7 at*;clear C3;(try clear c6);(try clear c13);(try clear p0);(try clear c14);(try clear c0);(try clear f0);(try clear f1);(try clear c1);(try clear f3);(try clear f4);(try clear p1);(try clear c15);(try clear c2);(try clear c3);(try clear f5);(try clear f6);(try clear c4);(try clear f8);(try clear f9);(try clear c5);(try clear f10);(try clear f11);(try clear c7);(try clear c8);(try clear f12);(try clear f13);(try clear c16);(try clear c9);(try clear f14);(try clear f15);(try clear c10);(try clear f16);(try clear f17);(try clear c11);(try clear f18);(try clear f19);(try clear c12);(try clear c17);(try clear c18);(try clear h3);(try clear h4);(try clear h5);(try clear h6);(try clear h7);(try clear h8);(try clear h9);(try clear h10);(try clear h11);(try clear h12);(try clear h13);(try clear h14);(try clear h15);(try clear h16);(try clear h17);(try clear h18);(try clear h19);(try clear h20);(try clear h21);(try clear h22);(try clear h23);(try clear h24);(try clear h25);(try clear h26);(try clear h27);(try clear h28);(try clear h29);(try clear h30);(try clear h31);(try clear h32);(try clear h33);(try clear h34);(try clear h35);(try clear h36);(try clear h37);(try clear h38);(try clear h39);(try clear h40);(try clear h41);(try clear h42);(try clear p0);obtain⟨kq,x1,x2,x3,x4,x5,x6,HA,J1,B0,B1,HB⟩:=hcut
     cases kq with
     |zero=>exact absurd HA.out (by simp[spec_ReadUrl.j1])
     |succ k1=>
      have H:=HA.out;clear HA;simp only[spec_ReadUrl.j1]at H;have C5:=Aside0.mk H;clear H;go_upto_if 71 with(fail)
      go_cut [] (fun wc=> ∃(kq:Nat) (x8:ByteArray),Aside0 (spec_ReadUrl.j2 kq x7 t3 t6 x6 x8 (⟨#[]⟩:ByteArray) false=some (r1,r2,r3,r4,r5,r6))∧Aside0 (kq≤k1)∧Aside0 (wc.heap[g0]?=some (.cells #[.string x1,.int .i64 x2,.string x3,.string x4,.bool x5] 63 (0,0)))∧Aside0 (wc.heap[g1]?=some (.cells #[.string t6,.int .i64 x6,.string x8,.string (⟨#[]⟩:ByteArray),.bool false] 63 (0,0)))∧Aside0 (Below w.heap.size w wc))
      case first=>
       have H:=C5.out;clear C5
       by_cases c19:(t4.size:Int)<(t3.size:Int)
       ·rw[if_pos c19]at H;have f20:=decide_eq_true c19;have f21:decide (t4.size<t3.size)=true:=decide_eq_true (Int.ofNat_lt.mp c19);have c41b2_:(t4.size<t3.size)=True:=eq_true (of_decide_eq_true f21);clear c19;(first|rw[f20]|(simp only[i64_w,i32_w];rw[f20])|rw[f21]|skip)
        replace H:=ifS_ H;obtain⟨c20,H⟩:=H;obtain⟨f22,f23⟩:=dT_ c20;clear c20
        replace H:=ifS_ H;obtain⟨c21,H⟩:=H;obtain⟨f24,f25⟩:=dT_ c21;clear c21;replace H:=bS_ H;obtain⟨t9,A8,H⟩:=H;(try dsimp only at H);have H':=Aside0.mk H;clear H;go_wp2_with (first|((with_reducible refine gc_ 77 rfl ?_);refine gR 76 Tryz.func77 (spec_CleanPath.calls k1 (t3.extract ((t4.size:Int):Int).toNat t3.size) t9 _ A8.out) ?_;rintro w5 hb;replace B0:=Aside0.mk (blk_below (bk_ B0) hb);replace B1:=Aside0.mk (blk_below (bk_ B1) hb);replace HB:=Aside0.mk (below_step zb_ hb);(try clear hb);have n6:=N1.out;have n7:=N0.out;obtain⟨_,_,_,_,_,_,_,_,_,_⟩:=cells5_ B1.out))
        go_meet
        case rel=>exact⟨_,(t9),H',⟨by have:=J0.out;have:=J1.out;first|omega|exact Nat.le_refl _⟩,⟨(bk_ B0)⟩,⟨by(with_reducible repeat(first|refine blk_drewN ?_ _|refine blk_drew ?_|refine blk_alloc ?_ _));refine blk_put (cs:= #[.string t6,.int .i64 x6,.string (⟨#[47]⟩:ByteArray),.string (⟨#[]⟩:ByteArray),.bool false]) ?_ 2 _ rfl;(with_reducible repeat(first|refine blk_drewN ?_ _|refine blk_drew ?_|refine blk_alloc ?_ _));exact B1.out⟩,⟨zb_⟩⟩
       ·rw[if_neg c19]at H;have f20:=decide_eq_false c19;have f21:decide (t4.size<t3.size)=false:=decide_eq_false (fun h=>c19 (Int.ofNat_lt.mpr h));have c41b2_:(t4.size<t3.size)=False:=eq_false (of_decide_eq_false f21);clear c19;(first|rw[f20]|(simp only[i64_w,i32_w];rw[f20])|rw[f21]|skip);have H':=Aside0.mk H;clear H;go_wp2
        go_meet
        case rel=>exact⟨_,((⟨#[47]⟩:ByteArray)),H',⟨by have:=J0.out;have:=J1.out;first|omega|exact Nat.le_refl _⟩,⟨(bk_ B0)⟩,⟨(bk_ B1)⟩,⟨zb_⟩⟩
      case rest=>
       clear C5;(try clear c6);(try clear c13);(try clear p0);(try clear c14);(try clear c0);(try clear f0);(try clear f1);(try clear c1);(try clear f3);(try clear f4);(try clear p1);(try clear c15);(try clear c2);(try clear c3);(try clear f5);(try clear f6);(try clear c4);(try clear f8);(try clear f9);(try clear c5);(try clear f10);(try clear f11);(try clear c7);(try clear c8);(try clear f12);(try clear f13);(try clear c16);(try clear c9);(try clear f14);(try clear f15);(try clear c10);(try clear f16);(try clear f17);(try clear c11);(try clear f18);(try clear f19);(try clear c12);(try clear c17);(try clear c18);(try clear c19);(try clear f20);(try clear f21);(try clear c20);(try clear f22);(try clear f23);(try clear c21);(try clear f24);(try clear f25);(try clear c22);(try clear h3);(try clear h4);(try clear h5);(try clear h6);(try clear h7);(try clear h8);(try clear h9);(try clear h10);(try clear h11);(try clear h12);(try clear h13);(try clear h14);(try clear h15);(try clear h16);(try clear h17);(try clear h18);(try clear h19);(try clear h20);(try clear h21);(try clear h22);(try clear h43);(try clear h44);(try clear h45);(try clear h46);(try clear h47);(try clear h23);(try clear h24);(try clear h25);(try clear h26);(try clear h27);(try clear h28);(try clear h29);(try clear h30);(try clear h31);(try clear h32);(try clear h33);(try clear h34);(try clear h35);(try clear h36);(try clear h37);(try clear h38);(try clear h39);(try clear h40);(try clear h41);(try clear h42);(try clear h48);(try clear h49);(try clear h50);(try clear h51);(try clear h52);(try clear p0);(try clear p1);obtain⟨kq,x8,HA,J2,B0,B1,HB⟩:=hcut
       cases kq with
       |zero=>exact absurd HA.out (by simp[spec_ReadUrl.j2])
       |succ k2=>
        have H:=HA.out;clear HA;simp only[spec_ReadUrl.j2]at H
        by_cases c23:(t3.size:Int)<(x7.size:Int)
        ·rw[if_pos c23]at H;have f26:=decide_eq_true c23;have f27:decide (t3.size<x7.size)=true:=decide_eq_true (Int.ofNat_lt.mp c23);have c48b2_:(t3.size<x7.size)=True:=eq_true (of_decide_eq_true f27);clear c23;generalize h53:(wrap64 ((t3.size:Int)+1))=j4 at H
         have h54:(IntKind.i64.wrap ((t3.size:Int)+1))=j4:=(i64_w _).trans h53
         replace H:=ifS_ H;obtain⟨c24,H⟩:=H;obtain⟨f28,f29⟩:=dT_ c24;clear c24
         replace H:=ifS_ H;obtain⟨c25,H⟩:=H;obtain⟨f30,f31⟩:=dT_ c25;clear c25;replace H:=bS_ H;obtain⟨t10,A9,H⟩:=H;(try dsimp only at H);have C6:=Aside0.mk H;clear H;have n8:=N1.out;have n9:=N0.out;obtain⟨_,_,_,_,_,_,_,_,_,_⟩:=cells5_ B1.out;go_upto_if 92 with(first|((with_reducible refine gc_ 78 rfl ?_);refine goesL_ (some 91) rfl rfl Tryz.func78 zz0 rfl #[.agg #[.string t6,.int .i64 x6,.string x8,.string (x7.extract ((j4):Int).toNat x7.size),.bool true]] rfl (by(try simp only[List.map_toArray,List.map_cons,List.map_nil]);first|done|(simp only[h53];rfl)|rfl|(simp only[List.length_drop,List.length_take];rfl)) ?_;(with_reducible refine(spec_UrlOk.calls k2 t6 x6 x8 (x7.extract ((j4):Int).toNat x7.size) true t10 _ A9.out).mono ?_);rintro e w6 ⟨rfl,hb⟩;refine⟨_,rfl,?_⟩;replace B0:=Aside0.mk (blk_below (g:=g0) (o:= .cells #[.string x1,.int .i64 x2,.string x3,.string x4,.bool x5] 63 (0,0)) (bk_ B0) hb);replace B1:=Aside0.mk (blk_below (g:=g1) (o:= .cells #[.string t6,.int .i64 x6,.string x8,.string (x7.extract ((j4):Int).toNat x7.size),.bool true] 63 (0,0)) (bk_ B1) hb);replace HB:=Aside0.mk (below_step zb_ hb);(try clear hb)))
         (try simp only[Act.put,List.setIfInBounds_toArray,List.set_cons_zero,List.set_cons_succ]);have H:=C6.out;clear C6
         by_cases c26:t10=true
         ·subst c26;rw[if_pos rfl]at H;simp only[Option.some.injEq,Prod.mk.injEq]at H;obtain⟨rfl,rfl,rfl,rfl,rfl,rfl⟩:=H;have n10:=N1.out;have n11:=N0.out;obtain⟨_,_,_,_,_,_,_,_,_,_⟩:=cells5_ B1.out;obtain⟨_,_,_,_,_,_,_,_,_,_⟩:=cells5_ B0.out;go_wp2
          refine bodyPost_ret (results_ct rfl _ _ g0 63 #[.string t6,.int .i64 x6,.string x8,.string (x7.extract ((j4):Int).toNat x7.size),.bool true] (0,0) _ rfl (bk_ B0) Tryz.underlying63 rfl zz0) rfl ?_;exact⟨zz33,zb_⟩
         ·replace c26:=Bool.eq_false_iff.mpr c26;subst c26;rw[if_neg Bool.false_ne_true]at H;simp only[Option.some.injEq,Prod.mk.injEq]at H;obtain⟨rfl,rfl,rfl,rfl,rfl,rfl⟩:=H;have n12:=N0.out;have n13:=N1.out;obtain⟨_,_,_,_,_,_,_,_,_,_⟩:=cells5_ B0.out;go_wp2
          refine bodyPost_ret (results_ct rfl _ _ g0 63 #[.string (⟨#[]⟩:ByteArray),.int .i64 0,.string (⟨#[]⟩:ByteArray),.string (⟨#[]⟩:ByteArray),.bool false] (0,0) _ rfl (bk_ B0) Tryz.underlying63 rfl zz0) rfl ?_;exact⟨zz33,zb_⟩
        ·rw[if_neg c23]at H;have f26:=decide_eq_false c23;have f27:decide (t3.size<x7.size)=false:=decide_eq_false (fun h=>c23 (Int.ofNat_lt.mpr h));have c48b2_:(t3.size<x7.size)=False:=eq_false (of_decide_eq_false f27);clear c23;replace H:=bS_ H;obtain⟨t11,A10,H⟩:=H;(try dsimp only at H);have C7:=Aside0.mk H;clear H;have n14:=N1.out;have n15:=N0.out;obtain⟨_,_,_,_,_,_,_,_,_,_⟩:=cells5_ B1.out;go_upto_if 92 with(first|((with_reducible refine gc_ 78 rfl ?_);refine gR 91 Tryz.func78 (spec_UrlOk.calls k2 t6 x6 x8 (⟨#[]⟩:ByteArray) false t11 _ A10.out) ?_;rintro w7 hb;replace B0:=Aside0.mk (blk_below (bk_ B0) hb);replace B1:=Aside0.mk (blk_below (bk_ B1) hb);replace HB:=Aside0.mk (below_step zb_ hb);(try clear hb)))
         (try simp only[Act.put,List.setIfInBounds_toArray,List.set_cons_zero,List.set_cons_succ]);have H:=C7.out;clear C7
         by_cases c27:t11=true
         ·subst c27;rw[if_pos rfl]at H;simp only[Option.some.injEq,Prod.mk.injEq]at H;obtain⟨rfl,rfl,rfl,rfl,rfl,rfl⟩:=H;have n16:=N1.out;have n17:=N0.out;obtain⟨_,_,_,_,_,_,_,_,_,_⟩:=cells5_ B1.out;obtain⟨_,_,_,_,_,_,_,_,_,_⟩:=cells5_ B0.out;go_wp2
          refine bodyPost_ret (results_ct rfl _ _ g0 63 #[.string t6,.int .i64 x6,.string x8,.string (⟨#[]⟩:ByteArray),.bool false] (0,0) _ rfl (bk_ B0) Tryz.underlying63 rfl zz0) rfl ?_;exact⟨ze_,zb_⟩
         ·replace c27:=Bool.eq_false_iff.mpr c27;subst c27;rw[if_neg Bool.false_ne_true]at H;simp only[Option.some.injEq,Prod.mk.injEq]at H;obtain⟨rfl,rfl,rfl,rfl,rfl,rfl⟩:=H;have n18:=N0.out;have n19:=N1.out;obtain⟨_,_,_,_,_,_,_,_,_,_⟩:=cells5_ B0.out;go_wp2
          refine bodyPost_ret (results_ct rfl _ _ g0 63 #[.string (⟨#[]⟩:ByteArray),.int .i64 0,.string (⟨#[]⟩:ByteArray),.string (⟨#[]⟩:ByteArray),.bool false] (0,0) _ rfl (bk_ B0) Tryz.underlying63 rfl zz0) rfl ?_;exact⟨ze_,zb_⟩
end Go.Proofs.YthmehmehoehlpaaGreatDoor.GFnExactRecText
