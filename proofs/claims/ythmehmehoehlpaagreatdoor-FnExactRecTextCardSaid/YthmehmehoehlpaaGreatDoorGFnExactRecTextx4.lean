-- Printed by gen.py and its programs for this claim.
import Derived.Test.YthmehmehoehlpaaGreatDoorGFnExactRecTextx0
import Derived.Test.YthmehmehoehlpaaGreatDoorGFnExactRecTextx1
import Derived.Test.YthmehmehoehlpaaGreatDoorGFnExactRecTextx2
import Derived.Test.YthmehmehoehlpaaGreatDoorGFnExactRecTextx3
import Derived.Test.YthmehmehoehlpaaGreatDoorZFnExactRecText
namespace Go.Proofs.YthmehmehoehlpaaGreatDoor.GFnExactRecText
open Go.RowKit Go.Proofs.YthmehmehoehlpaaGreatDoorW.PrintWords Go.Proofs.YthmehmehoehlpaaGreatDoorW.PrintLast Go.Proofs.YthmehmehoehlpaaGreatDoorW.PrintMore Go.Proofs.YthmehmehoehlpaaGreatDoorW.Zs
set_option maxHeartbeats 40000000
set_option maxRecDepth 100000
attribute [local go_sem] max2_int min2_int max_two min_two max_three min_three max_four min_four
set_option linter.unusedVariables false
set_option linter.unusedSimpArgs false
theorem spec_CleanPath_ownB (A:Option Addr) (n c:Nat):(Value.slice A n c).ownBlock=A.map Addr.block:=by cases A<;>rfl
mutual
def spec_CleanPath.j0:Nat→ByteArray→Bool→Option (ByteArray)
 |0,_,_=>none
 |k+1,x0,x1=>if x1=true then(some (⟨#[]⟩:ByteArray))else(spec_CleanPath.l0 k x0 0)
def spec_CleanPath.l0:Nat→ByteArray→Int→Option (ByteArray)
 |0,_,_=>none
 |k+1,x0,x1=>if x1<(x0.size:Int)then(if 0≤x1 then(if(bt x0 x1)=35 then(some (⟨#[]⟩:ByteArray))else(if(bt x0 x1)=63 then(some (⟨#[]⟩:ByteArray))else(spec_CleanPath.l0 k x0 (wrap64 (x1+1)))))else(none))else((spec_l7percent.f k x0).bind fun t0=>(if 1≤(t0.size:Int)then((spec_l7split.f k (t0.extract 1 t0.size) 47).bind fun t1=>(spec_CleanPath.l1 k t1 ([]:List ByteArray) 0))else(none)))
def spec_CleanPath.l1:Nat→List ByteArray→List ByteArray→Int→Option (ByteArray)
 |0,_,_,_=>none
 |k+1,x0,x1,x2=>if x2<(x0.length:Int)then(if 0≤x2 then(if(rdOf ByteArray.empty x0 x2).toList=([46]:List UInt8)then(spec_CleanPath.j3 k x0 x1 x2 true)else(spec_CleanPath.j3 k x0 x1 x2 ((rdOf ByteArray.empty x0 x2).toList==([46,46]:List UInt8))))else(none))else(spec_CleanPath.l2 k x1 (⟨#[]⟩:ByteArray) 0)
def spec_CleanPath.j3:Nat→List ByteArray→List ByteArray→Int→Bool→Option (ByteArray)
 |0,_,_,_,_=>none
 |k+1,x0,x1,x2,x3=>if 0≤x2 then(if x2<(x0.length:Int)then(if(rdOf ByteArray.empty x0 x2).toList=([46,46]:List UInt8)then(spec_CleanPath.j4 k x0 x1 x2 x3 (decide ((x1.length:Int)>0)))else(spec_CleanPath.j4 k x0 x1 x2 x3 false))else(none))else(none)
def spec_CleanPath.j4:Nat→List ByteArray→List ByteArray→Int→Bool→Bool→Option (ByteArray)
 |0,_,_,_,_,_=>none
 |k+1,x0,x1,x2,x3,x4=>if x4=true then(if 0≤(wrap64 ((x1.length:Int)-1))then(if(wrap64 ((x1.length:Int)-1))≤(x1.length:Int)then(spec_CleanPath.j5 k x0 (x1.take ((wrap64 ((x1.length:Int)-1)):Int).toNat) x2 x3)else(none))else(none))else(spec_CleanPath.j5 k x0 x1 x2 x3)
def spec_CleanPath.j5:Nat→List ByteArray→List ByteArray→Int→Bool→Option (ByteArray)
 |0,_,_,_,_=>none
 |k+1,x0,x1,x2,x3=>if x3=true then(if(wrap64 (x2+1))=(x0.length:Int)then(if x1.length<8796093022208 then(spec_CleanPath.l1 k x0 (x1++ [(⟨#[]⟩:ByteArray)]) (wrap64 (x2+1)))else(none))else(spec_CleanPath.l1 k x0 x1 (wrap64 (x2+1))))else(if 0≤x2 then(if x2<(x0.length:Int)then(if x1.length<8796093022208 then(spec_CleanPath.l1 k x0 (x1++ [rdOf ByteArray.empty x0 x2]) (wrap64 (x2+1)))else(none))else(none))else(none))
def spec_CleanPath.l2:Nat→List ByteArray→ByteArray→Int→Option (ByteArray)
 |0,_,_,_=>none
 |k+1,x0,x1,x2=>if x2<(x0.length:Int)then(if x1.size+1≤9223372036854775807 then(if 0≤x2 then(if(x1++(⟨#[47]⟩:ByteArray)).size+(rdOf ByteArray.empty x0 x2).size≤9223372036854775807 then(spec_CleanPath.l2 k x0 ((x1++(⟨#[47]⟩:ByteArray))++(rdOf ByteArray.empty x0 x2)) (wrap64 (x2+1)))else(none))else(none))else(none))else(if x1.toList=([]:List UInt8)then(some (⟨#[47]⟩:ByteArray))else(some x1))
end
def spec_CleanPath.f (k:Nat) (a0:ByteArray):Option (ByteArray):=if(a0.size:Int)=0 then(spec_CleanPath.j0 k a0 true)else(if(a0.size:Int)>200 then(spec_CleanPath.j0 k a0 true)else(if 0<(a0.size:Int)then(if(bt a0 0)=47 then((spec_l6visible.f k a0).bind fun t0=>(spec_CleanPath.j0 k a0 (!t0)))else(spec_CleanPath.j0 k a0 true))else(none)))
theorem spec_CleanPath.calls (k:Nat) (a0 r:ByteArray) (w:World) (H:spec_CleanPath.f k a0=some r):
  Calls Tryz.prog 77 #[.string a0] w fun e w'=>e= .returned (.string r)∧Below w.heap.size w w':=by
 have HB:=Aside0.mk (Below.refl w.heap.size w);unfold spec_CleanPath.f at H;have C0:=Aside0.mk H;clear H;go_enter Tryz.func77,Tryz.ntmps77
 go_upto_region 1 with(fail)
 go_cut [27] (fun v0 wc=> ∃(kq:Nat) (x0:Bool),v0= .bool x0∧Aside0 (spec_CleanPath.j0 kq a0 x0=some r)∧Aside0 (kq≤k)∧Aside0 (Below w.heap.size w wc))
 case first=>
  have H:=C0.out;clear C0
  by_cases c0:(a0.size:Int)=0
  ·rw[if_pos c0]at H;obtain⟨f0,f1⟩:=bqT_ c0;clear c0;(first|rw[f0]|(simp only[i64_w,i32_w];rw[f0])|rw[f1]|(rw[f2];simp only[Bool.not_true,Bool.not_false])|skip);have H':=Aside0.mk H;clear H;go_wp2
   go_meet
   case rel=>exact⟨_,(true),zr_,H',⟨zo_⟩,⟨zb_⟩⟩
  ·rw[if_neg c0]at H;obtain⟨f0,f1⟩:=bqF_ c0;(first|rw[f0]|(simp only[i64_w,i32_w];rw[f0])|rw[f1]|(rw[f2];simp only[Bool.not_true,Bool.not_false])|skip)
   by_cases c1:(a0.size:Int)>200
   ·rw[if_pos c1]at H;have f3:=decide_eq_true c1;have f4:decide (200<a0.size)=true:=decide_eq_true zz5;clear c1;have H':=Aside0.mk H;clear H;go_wp2
    go_meet
    case rel=>exact⟨_,(true),zr_,H',⟨zo_⟩,⟨zb_⟩⟩
   ·rw[if_neg c1]at H;have f3:=decide_eq_false c1;have f4:decide (200<a0.size)=false:=decide_eq_false zz5;clear c1
    replace H:=ifS_ H;obtain⟨c2,H⟩:=H;have f5:=decide_eq_true c2;have f6:decide (0<a0.size)=true:=decide_eq_true zz5;clear c2;have C1:=Aside0.mk H;clear H;have p0:0≤(0:Int):=zz5;have q0:0<a0.size:=(by have:(0:Int)<(a0.size:Int):=of_decide_eq_true za_;omega);have h0: ∀h:0<a0.size,((a0[0]'h).toNat:Int)=bt a0 0:=bt_at a0 0;clear p0;have q1:(0<(a0.size:Int))=True:=eq_true (of_decide_eq_true za_);replace q0:=eq_true q0
    repeat' (first|(go_big_may;(fail))|go_values|go_skip|go_big_skip|go_big_want|((first|(with_reducible refine gate_nog rfl ?_)|(fail_if_success with_reducible refine gate_any ?_));go_step)|go_upon|simp only[Bool.not_true,Bool.not_false,Bool.true_and,Bool.false_and,Bool.true_or,Bool.false_or]|dsimp only)
    have H:=C1.out;clear C1
    by_cases c3:(bt a0 0)=47
    ·rw[if_pos c3]at H;obtain⟨f7,f8⟩:=bqT_ c3;clear c3;(first|rw[f7]|(simp only[i64_w,i32_w];rw[f7])|rw[f8]|(rw[f9];simp only[Bool.not_true,Bool.not_false])|skip);replace H:=bS_ H;obtain⟨t0,A0,H⟩:=H;(try dsimp only at H);have H':=Aside0.mk H;clear H;go_wp2_with (first|(go_at_call 73;(with_reducible refine(spec_l6visible.calls k a0 t0 _ A0.out).mono ?_);rintro e w' ⟨rfl,⟨nd,rfl⟩⟩))
     go_meet
     case rel=>exact⟨_,(!t0),zr_,H',⟨zo_⟩,⟨zb_⟩⟩
    ·rw[if_neg c3]at H;obtain⟨f7,f8⟩:=bqF_ c3;(first|rw[f7]|(simp only[i64_w,i32_w];rw[f7])|rw[f8]|(rw[f9];simp only[Bool.not_true,Bool.not_false])|skip);have H':=Aside0.mk H;clear H;go_wp2
     go_meet
     case rel=>exact⟨_,(true),zr_,H',⟨zo_⟩,⟨zb_⟩⟩
 case rest=>
  clear C0;(try clear p1);(try clear c0);(try clear f0);(try clear f1);(try clear c1);(try clear f3);(try clear f4);(try clear c2);(try clear f5);(try clear f6);(try clear p0);(try clear q0);(try clear h0);(try clear q1);(try clear c4);(try clear c3);(try clear f7);(try clear f8);(try clear p0);(try clear q0);obtain⟨kq,x0,rfl,HA,J0,HB⟩:=hcut
  cases kq with
  |zero=>exact absurd HA.out (by simp[spec_CleanPath.j0])
  |succ k0=>
   have H:=HA.out;clear HA;simp only[spec_CleanPath.j0]at H
   by_cases c5:x0=true
   ·subst c5;rw[if_pos rfl]at H;obtain rfl:=Option.some.inj H;go_wp2
    go_ret;exact⟨ze_,zb_⟩
   ·replace c5:=Bool.eq_false_iff.mpr c5;subst c5;rw[if_neg Bool.false_ne_true]at H;have H':=Aside0.mk H;clear H;go_wp2
    go_loopg [3] k0 (fun kq v1 w'=> ∃(x1:Int),v1= .int .i64 x1∧Aside0 (spec_CleanPath.l0 kq a0 x1=some r)∧Aside0 (kq≤k0)∧Aside0 (Below w.heap.size w w'))
    case atStart=>exact⟨(0),zr_,H',⟨Nat.le_refl _⟩,⟨zb_⟩⟩
    case round=>
     clear H';(try clear c6);(try clear p1);(try clear c0);(try clear f0);(try clear f1);(try clear c1);(try clear f3);(try clear f4);(try clear c2);(try clear f5);(try clear f6);(try clear p0);(try clear q0);(try clear h0);(try clear q1);(try clear c4);(try clear c3);(try clear f7);(try clear f8);(try clear c5);(try clear p1);(try clear p0);(try clear q0);obtain⟨x1,rfl,HA,K0,HB⟩:=hrel
     cases gk with
     |zero=>exact absurd HA.out (by simp[spec_CleanPath.l0])
     |succ k1=>
      have H:=HA.out;clear HA;simp only[spec_CleanPath.l0]at H
      by_cases c7:x1<(a0.size:Int)
      ·rw[if_pos c7]at H;have f10:=decide_eq_true c7;clear c7
       replace H:=ifS_ H;obtain⟨c8,H⟩:=H;have f11:=decide_eq_true c8;clear c8;have C2:=Aside0.mk H;clear H;have p2:0≤(x1:Int):=of_decide_eq_true za_;have q2:x1<(a0.size:Int):=of_decide_eq_true za_;have h1:=bt_at a0 x1;replace p2:=eq_true p2;replace q2:=eq_true q2
       repeat' (first|(go_big_may;(fail))|go_values|go_skip|go_big_skip|go_big_want|((first|(with_reducible refine gate_nog rfl ?_)|(fail_if_success with_reducible refine gate_any ?_));go_step)|go_upon|simp only[Bool.not_true,Bool.not_false,Bool.true_and,Bool.false_and,Bool.true_or,Bool.false_or]|dsimp only)
       have H:=C2.out;clear C2
       by_cases c9:(bt a0 x1)=35
       ·rw[if_pos c9]at H;obtain⟨f12,f13⟩:=bqT_ c9;clear c9;(first|rw[f12]|(simp only[i64_w,i32_w];rw[f12])|rw[f13]|(rw[f14];simp only[Bool.not_true,Bool.not_false])|skip);obtain rfl:=Option.some.inj H;go_wp2
        go_ret;exact⟨ze_,zb_⟩
       ·rw[if_neg c9]at H;obtain⟨f12,f13⟩:=bqF_ c9;(first|rw[f12]|(simp only[i64_w,i32_w];rw[f12])|rw[f13]|(rw[f14];simp only[Bool.not_true,Bool.not_false])|skip)
        by_cases c10:(bt a0 x1)=63
        ·rw[if_pos c10]at H;obtain⟨f15,f16⟩:=bqT_ c10;clear c10;obtain rfl:=Option.some.inj H;have p3:0≤(x1:Int):=of_decide_eq_true za_;have q3:x1<(a0.size:Int):=of_decide_eq_true za_;have h2:=bt_at a0 x1;replace p3:=eq_true p3;replace q3:=eq_true q3;go_wp2
         go_ret;exact⟨ze_,zb_⟩
        ·rw[if_neg c10]at H;obtain⟨f15,f16⟩:=bqF_ c10;have H':=Aside0.mk H;clear H;have p3:0≤(x1:Int):=of_decide_eq_true za_;have q3:x1<(a0.size:Int):=of_decide_eq_true za_;have h2:=bt_at a0 x1;replace p3:=eq_true p3;replace q3:=eq_true q3;go_wp2
         go_roundg k1
         (case measure=>have:=J0.out;have:=K0.out;omega);case rel=>exact⟨(wrap64 (x1+1)),zr_,H',⟨zz6⟩,⟨zb_⟩⟩
      ·rw[if_neg c7]at H;have f10:=decide_eq_false c7;clear c7;replace H:=bS_ H;obtain⟨t1,A1,H⟩:=H;(try dsimp only at H)
       replace H:=ifS_ H;obtain⟨c11,H⟩:=H;obtain⟨f17,f18⟩:=dT_ c11;clear c11;replace H:=bS_ H;obtain⟨t2,A2,H⟩:=H;(try dsimp only at H);have H':=Aside0.mk H;clear H;go_wp2_with (first|((with_reducible refine gc_ 112 rfl ?_);refine gR 45 Tryz.func112 (spec_l7percent.calls k1 a0 t1 _ A1.out) ?_;rintro w1 hb;replace HB:=Aside0.mk (below_step zb_ hb);(try clear hb))|((with_reducible refine gc_ 111 rfl ?_);refine gV 47 Tryz.func111 (spec_l7split.calls k1 (t1.extract 1 t1.size) 47 t2 _ A2.out) ?_;rintro v2 w2 ⟨h3,hb⟩;have O0:=Aside0.mk (Kd.R_lower h3 (below_size zb_));replace HB:=Aside0.mk (below_step zb_ hb);(try clear hb);(try clear h3)))
       go_loopg [5,6] k1 (fun kq v3 v4 w'=> ∃(x2:List ByteArray) (x3:Int),v4= .int .i64 x3∧Aside0 (spec_CleanPath.l1 kq t2 x2 x3=some r)∧Aside0 (kq≤k1)∧Aside0 (Kd.R Kd.string 9 w' w.heap.size (fun k_=>some k_≠(v3:Value).ownBlock) v2 t2)∧Aside0 (Kd.R Kd.string 9 w' w.heap.size (fun k_=>some k_≠(v2:Value).ownBlock) v3 x2)∧Aside0 (Below w.heap.size w w'))
       case atStart=>exact⟨(([]:List ByteArray)),(0),zr_,H',⟨Nat.le_refl _⟩,⟨by(with_reducible repeat(first|apply Kd.R_alloc|apply Kd.R_drewN|apply Kd.R_drew));exact Kd.R_mono O0.out (fun _ hk=>(by simp[Value.ownBlock]))⟩,⟨zn_⟩,⟨zb_⟩⟩
       case round=>
        clear H';(try clear c6);(try clear p4);(try clear q4);(try clear h4);(try clear p1);(try clear c0);(try clear f0);(try clear f1);(try clear c1);(try clear f3);(try clear f4);(try clear c2);(try clear f5);(try clear f6);(try clear p0);(try clear q0);(try clear h0);(try clear q1);(try clear c4);(try clear c3);(try clear f7);(try clear f8);(try clear c5);(try clear c7);(try clear f10);(try clear c8);(try clear f11);(try clear p2);(try clear q2);(try clear h1);(try clear c9);(try clear f12);(try clear f13);(try clear p3);(try clear q3);(try clear h2);(try clear c10);(try clear f15);(try clear f16);(try clear c11);(try clear f17);(try clear f18);(try clear p2);(try clear p3);(try clear p1);(try clear p0);(try clear q2);(try clear q3);(try clear q0);obtain⟨x2,x3,rfl,HA,K1,O1,O2,HB⟩:=hrel
        cases gk with
        |zero=>exact absurd HA.out (by simp[spec_CleanPath.l1])
        |succ k2=>
         have H:=HA.out;clear HA;simp only[spec_CleanPath.l1]at H
         by_cases c12:x3<(t2.length:Int)
         ·rw[if_pos c12]at H;have f19:=decide_eq_true c12;clear c12;have C3:=Aside0.mk H;clear H;obtain⟨a1,o0,e0⟩:=Kd.R_slice O1.out;subst e0;go_upto_region 13 with(fail)
          go_cut [7] (fun v5 wc=> ∃(kq:Nat) (x4:Bool),v5= .bool x4∧Aside0 (spec_CleanPath.j3 kq t2 x2 x3 x4=some r)∧Aside0 (kq≤k2)∧Aside0 (Kd.R Kd.string 9 wc w.heap.size (fun k_=>some k_≠(u5:Value).ownBlock) (.slice a1 t2.length o0) t2)∧Aside0 (Kd.R Kd.string 9 wc w.heap.size (fun k_=>some k_≠((.slice a1 t2.length o0):Value).ownBlock) u5 x2)∧Aside0 (Below w.heap.size w wc))
          case first=>
           have H:=C3.out;clear C3
           replace H:=ifS_ H;obtain⟨c13,H⟩:=H;have f20:=decide_eq_true c13;clear c13;(first|rw[f20]|(simp only[i64_w,i32_w];rw[f20])|skip);have C4:=Aside0.mk H;clear H;have p5:0≤(x3:Int):=of_decide_eq_true za_;have q5:x3<(t2.length:Int):=of_decide_eq_true za_;obtain⟨d0,e1,h5⟩:=Kd.at_string (Kd.R_reads' O1.out).2.2 x3 p5 q5;cases e1;replace p5:=eq_true p5;replace q5:=eq_true q5
           repeat' (first|(go_big_may;(fail))|go_values|go_skip|go_big_skip|go_big_want|((first|(with_reducible refine gate_nog rfl ?_)|(fail_if_success with_reducible refine gate_any ?_));go_step)|go_upon|simp only[Bool.not_true,Bool.not_false,Bool.true_and,Bool.false_and,Bool.true_or,Bool.false_or]|dsimp only)
           have H:=C4.out;clear C4
           by_cases c14:(rdOf ByteArray.empty t2 x3).toList=([46]:List UInt8)
           ·rw[if_pos c14]at H;obtain⟨f21,f22⟩:=bqT_ c14;clear c14;(first|rw[f21]|(simp only[i64_w,i32_w];rw[f21])|rw[f22]|(rw[f23];simp only[Bool.not_true,Bool.not_false])|skip);have H':=Aside0.mk H;clear H;go_wp2
            go_meet
            case rel=>exact⟨_,(true),zr_,H',⟨by have:=J0.out;have:=K0.out;have:=K1.out;first|omega|exact Nat.le_refl _⟩,⟨zz37⟩,⟨zz36⟩,⟨zb_⟩⟩
           ·rw[if_neg c14]at H;obtain⟨f21,f22⟩:=bqF_ c14;(first|rw[f21]|(simp only[i64_w,i32_w];rw[f21])|rw[f22]|(rw[f23];simp only[Bool.not_true,Bool.not_false])|skip);have H':=Aside0.mk H;clear H;have p6:0≤(x3:Int):=of_decide_eq_true za_;have q6:x3<(t2.length:Int):=of_decide_eq_true za_;obtain⟨d1,e2,h6⟩:=Kd.at_string (Kd.R_reads' O1.out).2.2 x3 p6 q6;obtain rfl:d0=d1:=(by injection e2);replace p6:=eq_true p6;replace q6:=eq_true q6;go_wp2
            go_meet
            case rel=>exact⟨_,(((rdOf ByteArray.empty t2 x3).toList==([46,46]:List UInt8))),zr_,H',⟨by have:=J0.out;have:=K0.out;have:=K1.out;first|omega|exact Nat.le_refl _⟩,⟨zz37⟩,⟨zz36⟩,⟨zb_⟩⟩
          case rest=>
           clear C3;(try clear c6);(try clear p4);(try clear q4);(try clear h4);(try clear c15);(try clear p1);(try clear c0);(try clear f0);(try clear f1);(try clear c1);(try clear f3);(try clear f4);(try clear c2);(try clear f5);(try clear f6);(try clear p0);(try clear q0);(try clear h0);(try clear q1);(try clear c4);(try clear c3);(try clear f7);(try clear f8);(try clear c5);(try clear c7);(try clear f10);(try clear c8);(try clear f11);(try clear p2);(try clear q2);(try clear h1);(try clear p7);(try clear q7);(try clear h7);(try clear c9);(try clear f12);(try clear f13);(try clear p8);(try clear q8);(try clear h8);(try clear p3);(try clear q3);(try clear h2);(try clear c10);(try clear f15);(try clear f16);(try clear c11);(try clear f17);(try clear f18);(try clear c12);(try clear f19);(try clear c13);(try clear f20);(try clear c14);(try clear f21);(try clear f22);(try clear h5);(try clear h6);(try clear p4);(try clear p2);(try clear p5);(try clear p6);(try clear p3);(try clear p1);(try clear p0);(try clear q4);(try clear q2);(try clear q5);(try clear q6);(try clear q3);(try clear q0);obtain⟨kq,x4,rfl,HA,J1,O1,O2,HB⟩:=hcut
           cases kq with
           |zero=>exact absurd HA.out (by simp[spec_CleanPath.j3])
           |succ k3=>
            have H:=HA.out;clear HA;simp only[spec_CleanPath.j3]at H;have C5:=Aside0.mk H;clear H;go_upto_region 14 with(fail)
            go_cut [75] (fun v6 wc=> ∃(kq:Nat) (x5:Bool),v6= .bool x5∧Aside0 (spec_CleanPath.j4 kq t2 x2 x3 x4 x5=some r)∧Aside0 (kq≤k3)∧Aside0 (Kd.R Kd.string 9 wc w.heap.size (fun k_=>some k_≠(u5:Value).ownBlock) (.slice a1 t2.length o0) t2)∧Aside0 (Kd.R Kd.string 9 wc w.heap.size (fun k_=>some k_≠((.slice a1 t2.length o0):Value).ownBlock) u5 x2)∧Aside0 (Below w.heap.size w wc))
            case first=>
             have H:=C5.out;clear C5
             replace H:=ifS_ H;obtain⟨c16,H⟩:=H;have f24:=decide_eq_true c16;clear c16;(first|rw[f24]|(simp only[i64_w,i32_w];rw[f24])|skip)
             replace H:=ifS_ H;obtain⟨c17,H⟩:=H;have f25:=decide_eq_true c17;clear c17;have C6:=Aside0.mk H;clear H;have p9:0≤(x3:Int):=of_decide_eq_true za_;have q9:x3<(t2.length:Int):=of_decide_eq_true za_;obtain⟨d2,e3,h9⟩:=Kd.at_string (Kd.R_reads' O1.out).2.2 x3 p9 q9;cases e3;replace p9:=eq_true p9;replace q9:=eq_true q9
             repeat' (first|(go_big_may;(fail))|go_values|go_skip|go_big_skip|go_big_want|((first|(with_reducible refine gate_nog rfl ?_)|(fail_if_success with_reducible refine gate_any ?_));go_step)|go_upon|simp only[Bool.not_true,Bool.not_false,Bool.true_and,Bool.false_and,Bool.true_or,Bool.false_or]|dsimp only)
             have H:=C6.out;clear C6
             by_cases c18:(rdOf ByteArray.empty t2 x3).toList=([46,46]:List UInt8)
             ·rw[if_pos c18]at H;obtain⟨f26,f27⟩:=bqT_ c18;clear c18;(first|rw[f26]|(simp only[i64_w,i32_w];rw[f26])|rw[f27]|(rw[f28];simp only[Bool.not_true,Bool.not_false])|skip);have H':=Aside0.mk H;clear H;obtain⟨a2,o1,e4⟩:=Kd.R_slice O2.out;subst e4;go_wp2
              go_meet
              case rel=>exact⟨_,(decide ((x2.length:Int)>0)),zr_,H',⟨by have:=J0.out;have:=K0.out;have:=K1.out;have:=J1.out;first|omega|exact Nat.le_refl _⟩,⟨zz37⟩,⟨zz36⟩,⟨zb_⟩⟩
             ·rw[if_neg c18]at H;obtain⟨f26,f27⟩:=bqF_ c18;(first|rw[f26]|(simp only[i64_w,i32_w];rw[f26])|rw[f27]|(rw[f28];simp only[Bool.not_true,Bool.not_false])|skip);have H':=Aside0.mk H;clear H;go_wp2
              go_meet
              case rel=>exact⟨_,(false),zr_,H',⟨by have:=J0.out;have:=K0.out;have:=K1.out;have:=J1.out;first|omega|exact Nat.le_refl _⟩,⟨zz37⟩,⟨zz36⟩,⟨zb_⟩⟩
            case rest=>
             clear C5;(try clear c6);(try clear p4);(try clear q4);(try clear h4);(try clear c15);(try clear p1);(try clear c0);(try clear f0);(try clear f1);(try clear c1);(try clear f3);(try clear f4);(try clear c2);(try clear f5);(try clear f6);(try clear p0);(try clear q0);(try clear h0);(try clear q1);(try clear c4);(try clear c3);(try clear f7);(try clear f8);(try clear c5);(try clear c7);(try clear f10);(try clear c8);(try clear f11);(try clear p2);(try clear q2);(try clear h1);(try clear p7);(try clear q7);(try clear h7);(try clear c9);(try clear f12);(try clear f13);(try clear p8);(try clear q8);(try clear h8);(try clear p3);(try clear q3);(try clear h2);(try clear c10);(try clear f15);(try clear f16);(try clear c11);(try clear f17);(try clear f18);(try clear c12);(try clear f19);(try clear c13);(try clear f20);(try clear c14);(try clear f21);(try clear f22);(try clear c16);(try clear f24);(try clear c17);(try clear f25);(try clear c18);(try clear f26);(try clear f27);(try clear h5);(try clear h6);(try clear h9);(try clear p4);(try clear p2);(try clear p7);(try clear p5);(try clear p8);(try clear p6);(try clear p9);(try clear p3);(try clear p1);(try clear p0);(try clear q4);(try clear q2);(try clear q7);(try clear q5);(try clear q8);(try clear q6);(try clear q9);(try clear q3);(try clear q0);obtain⟨kq,x5,rfl,HA,J2,O1,O2,HB⟩:=hcut
             cases kq with
             |zero=>exact absurd HA.out (by simp[spec_CleanPath.j4])
             |succ k4=>
              have H:=HA.out;clear HA;simp only[spec_CleanPath.j4]at H;have C7:=Aside0.mk H;clear H;go_upto_if 75 with(fail)
              go_cut [5] (fun v3 wc=> ∃(kq:Nat) (x6:List ByteArray),Aside0 (spec_CleanPath.j5 kq t2 x6 x3 x4=some r)∧Aside0 (kq≤k4)∧Aside0 (Kd.R Kd.string 9 wc w.heap.size (fun k_=>some k_≠(v3:Value).ownBlock) (.slice a1 t2.length o0) t2)∧Aside0 (Kd.R Kd.string 9 wc w.heap.size (fun k_=>some k_≠((.slice a1 t2.length o0):Value).ownBlock) v3 x6)∧Aside0 (Below w.heap.size w wc))
              case first=>
               have H:=C7.out;clear C7
               by_cases c19:x5=true
               ·subst c19;rw[if_pos rfl]at H;generalize h10:(wrap64 ((x2.length:Int)-1))=j1 at H
                have h11:(IntKind.i64.wrap ((x2.length:Int)-1))=j1:=(i64_w _).trans h10
                replace H:=ifS_ H;obtain⟨c20,H⟩:=H;obtain⟨f29,f30⟩:=dT_ c20;clear c20
                replace H:=ifS_ H;obtain⟨c21,H⟩:=H;obtain⟨f31,f32⟩:=dT_ c21;clear c21;generalize h12:(x2.take ((j1):Int).toNat:List ByteArray)=y0 at H;have Y0:=Aside0.mk h12.symm;clear h12;have H':=Aside0.mk H;clear H;obtain⟨a3,o2,e5⟩:=Kd.R_slice O2.out;subst e5;have q10:((j1):Int)≤((x2.length:Int):Int):=of_decide_eq_true za_;obtain⟨i0,h13,_,h14,_⟩:=info_parts info9;have h15:=cut_to (P:=Tryz.prog) 58 9 .i64 Tryz.underlying58 h13 a3 x2.length o2 (j1) (of_decide_eq_true za_) q10 (Kd.R_reads' O2.out).2.1;have h16:=Kd.R_take (m:=((j1):Int).toNat) O2.out zz5;have h17:y0.length=((j1):Int).toNat:=(by rw[Y0.out,List.length_take];omega);rw[←Y0.out]at h16;rw[←h17]at h16 h15;clear h17 h13 h14 O2;have O3:=Aside0.mk h16;clear h16;replace q10:=eq_true q10;go_wp2
                go_meet
                case rel=>exact⟨_,(y0),H',⟨by have:=J0.out;have:=K0.out;have:=K1.out;have:=J1.out;have:=J2.out;first|omega|exact Nat.le_refl _⟩,⟨zz37⟩,⟨by(with_reducible repeat(first|apply Kd.R_alloc|apply Kd.R_drewN|apply Kd.R_drew));first|exact O3.out|exact Kd.R_mono O3.out (fun _ hk_=>zz28)⟩,⟨zb_⟩⟩
               ·replace c19:=Bool.eq_false_iff.mpr c19;subst c19;rw[if_neg Bool.false_ne_true]at H;have H':=Aside0.mk H;clear H;go_wp2
                go_meet
                case rel=>exact⟨_,(x2),H',⟨by have:=J0.out;have:=K0.out;have:=K1.out;have:=J1.out;have:=J2.out;first|omega|exact Nat.le_refl _⟩,⟨zz37⟩,⟨zz36⟩,⟨zb_⟩⟩
              case rest=>
               clear C7;(try clear c6);(try clear p4);(try clear q4);(try clear h4);(try clear c15);(try clear p1);(try clear c0);(try clear f0);(try clear f1);(try clear c1);(try clear f3);(try clear f4);(try clear q11);(try clear c2);(try clear f5);(try clear f6);(try clear p0);(try clear q0);(try clear h0);(try clear q1);(try clear c4);(try clear c3);(try clear f7);(try clear f8);(try clear c5);(try clear c7);(try clear f10);(try clear c8);(try clear f11);(try clear p2);(try clear q2);(try clear h1);(try clear p7);(try clear q7);(try clear h7);(try clear c9);(try clear f12);(try clear f13);(try clear p8);(try clear q8);(try clear h8);(try clear p3);(try clear q3);(try clear h2);(try clear c10);(try clear f15);(try clear f16);(try clear c11);(try clear f17);(try clear f18);(try clear c12);(try clear f19);(try clear c13);(try clear f20);(try clear c14);(try clear f21);(try clear f22);(try clear c16);(try clear f24);(try clear c17);(try clear f25);(try clear c18);(try clear f26);(try clear f27);(try clear c19);(try clear c20);(try clear f29);(try clear f30);(try clear c21);(try clear f31);(try clear f32);(try clear q10);(try clear h5);(try clear h6);(try clear h9);(try clear p4);(try clear p2);(try clear p7);(try clear p5);(try clear p8);(try clear p6);(try clear p9);(try clear p3);(try clear p1);(try clear p0);(try clear q4);(try clear q2);(try clear q7);(try clear q5);(try clear q8);(try clear q6);(try clear q9);(try clear q3);(try clear q10);(try clear q0);obtain⟨kq,x6,HA,J3,O1,O2,HB⟩:=hcut
               cases kq with
               |zero=>exact absurd HA.out (by simp[spec_CleanPath.j5])
               |succ k5=>
                have H:=HA.out;clear HA;simp only[spec_CleanPath.j5]at H
                by_cases c22:x4=true
                ·subst c22;rw[if_pos rfl]at H
                 by_cases c23:(wrap64 (x3+1))=(t2.length:Int)
                 ·rw[if_pos c23]at H;obtain⟨f33,f34⟩:=bqT_ c23;clear c23
                  replace H:=ifS_ H;obtain⟨c24,H⟩:=H;have L0:=Aside0.mk c24;clear c24;generalize h18:(x6++ [(⟨#[]⟩:ByteArray)]:List ByteArray)=y1 at H;have Y1:=Aside0.mk h18.symm;clear h18;have H':=Aside0.mk H;clear H;go_wp2_with (first|((with_reducible refine gate_builtin (b:= .append) (xs:= #[.tmp 95,.tmp 96]) rfl ?_);(try(refine gate_guard (by rfl) ?_;dsimp only));at_builtin;refine Kd.R_append Kd.string (w0:=w) w.heap.size rfl (.tmp 95) (.tmp 96) 58 9 (.string ⟨#[]⟩) 16 rfl Tryz.underlying58 info9 rfl zz2 zz5 u5 x6 (⟨#[]⟩:ByteArray) [.string (⟨#[]⟩:ByteArray)] (fun k_=>some k_≠(.slice a1 t2.length o0:Value).ownBlock) (fun _=>False) rfl rfl ?aP (fun _ hk=>hk.elim) ?aF ?aO ?aB ?aS ?aL ?_;(case aP=>exact rfl);(case aB=>exact zb_);(case aF=>exact(fun k_ hk=>Kd.fresh' (Kd.R_lt (kr_ O1)) k_ hk));(case aO=>exact (kr_ O2));(case aS=>exact(below_size zb_));(case aL=>have:=L0.out;omega);intro v7 w3 ho hb hg hat;rw[←Y1.out]at ho;replace O1:=Aside0.mk (Kd.R_after (ok:=(fun _=>True)) zz31 hg hat);replace HB:=Aside0.mk (hb);have O4:=Aside0.mk (ho);clear O2;clear ho hb hg hat))
                  go_roundg k5
                  (case measure=>have:=J0.out;have:=K0.out;have:=K1.out;have:=J1.out;have:=J2.out;have:=J3.out;omega);case rel=>exact⟨(y1),(wrap64 (x3+1)),zr_,H',⟨zz30⟩,⟨zz29⟩,⟨by(with_reducible repeat(first|apply Kd.R_alloc|apply Kd.R_drewN|apply Kd.R_drew));first|exact O4.out|exact Kd.R_mono O4.out (fun _ hk_=>zz28)⟩,⟨zb_⟩⟩
                 ·rw[if_neg c23]at H;obtain⟨f33,f34⟩:=bqF_ c23;have H':=Aside0.mk H;clear H;go_wp2
                  go_roundg k5
                  (case measure=>have:=J0.out;have:=K0.out;have:=K1.out;have:=J1.out;have:=J2.out;have:=J3.out;omega);case rel=>exact⟨(x6),(wrap64 (x3+1)),zr_,H',⟨zz30⟩,⟨zz37⟩,⟨zz36⟩,⟨zb_⟩⟩
                ·replace c22:=Bool.eq_false_iff.mpr c22;subst c22;rw[if_neg Bool.false_ne_true]at H
                 replace H:=ifS_ H;obtain⟨c25,H⟩:=H;have f35:=decide_eq_true c25;clear c25
                 replace H:=ifS_ H;obtain⟨c26,H⟩:=H;have f36:=decide_eq_true c26;clear c26
                 replace H:=ifS_ H;obtain⟨c27,H⟩:=H;have L1:=Aside0.mk c27;clear c27;generalize h19:(x6++ [rdOf ByteArray.empty t2 x3]:List ByteArray)=y2 at H;have Y2:=Aside0.mk h19.symm;clear h19;have H':=Aside0.mk H;clear H;have p10:0≤(x3:Int):=of_decide_eq_true za_;have q12:x3<(t2.length:Int):=of_decide_eq_true za_;obtain⟨d3,e6,h20⟩:=Kd.at_string (Kd.R_reads' O1.out).2.2 x3 p10 q12;cases e6;replace p10:=eq_true p10;replace q12:=eq_true q12;go_wp2_with (first|((with_reducible refine gate_builtin (b:= .append) (xs:= #[.tmp 83,.tmp 88]) rfl ?_);(try(refine gate_guard (by rfl) ?_;dsimp only));at_builtin;refine Kd.R_append Kd.string (w0:=w) w.heap.size rfl (.tmp 83) (.tmp 88) 58 9 (.string ⟨#[]⟩) 16 rfl Tryz.underlying58 info9 rfl zz2 zz5 u5 x6 (rdOf ByteArray.empty t2 x3) [.string (rdOf ByteArray.empty t2 x3)] (fun k_=>some k_≠(.slice (some d3) t2.length o0:Value).ownBlock) (fun _=>False) rfl rfl ?aP (fun _ hk=>hk.elim) ?aF ?aO ?aB ?aS ?aL ?_;(case aP=>exact rfl);(case aB=>exact zb_);(case aF=>exact(fun k_ hk=>Kd.fresh' (Kd.R_lt (kr_ O1)) k_ hk));(case aO=>exact (kr_ O2));(case aS=>exact(below_size zb_));(case aL=>have:=L1.out;omega);intro v8 w4 ho hb hg hat;rw[←Y2.out]at ho;replace O1:=Aside0.mk (Kd.R_after (ok:=(fun _=>True)) zz31 hg hat);replace HB:=Aside0.mk (hb);have O5:=Aside0.mk (ho);clear O2;clear ho hb hg hat))
                 go_roundg k5
                 (case measure=>have:=J0.out;have:=K0.out;have:=K1.out;have:=J1.out;have:=J2.out;have:=J3.out;omega);case rel=>exact⟨(y2),(wrap64 (x3+1)),zr_,H',⟨zz30⟩,⟨zz29⟩,⟨by(with_reducible repeat(first|apply Kd.R_alloc|apply Kd.R_drewN|apply Kd.R_drew));first|exact O5.out|exact Kd.R_mono O5.out (fun _ hk_=>zz28)⟩,⟨zb_⟩⟩
         ·rw[if_neg c12]at H;have f19:=decide_eq_false c12;clear c12;have H':=Aside0.mk H;clear H;obtain⟨a4,o3,e7⟩:=Kd.R_slice O1.out;subst e7;go_wp2
          go_loopg [8,9] k2 (fun kq v9 v10 w'=> ∃(x7:ByteArray) (x8:Int),v9= .string x7∧v10= .int .i64 x8∧Aside0 (spec_CleanPath.l2 kq x2 x7 x8=some r)∧Aside0 (kq≤k2)∧Aside0 (Kd.R Kd.string 9 w' w.heap.size (fun _=>True) u5 x2)∧Aside0 (Below w.heap.size w w'))
          case atStart=>exact⟨((⟨#[]⟩:ByteArray)),(0),zr_,zr_,H',⟨Nat.le_refl _⟩,⟨by(with_reducible repeat(first|apply Kd.R_alloc|apply Kd.R_drewN|apply Kd.R_drew));exact Kd.R_mono O2.out (fun _ hk=>trivial)⟩,⟨zb_⟩⟩
          case round=>
           clear H';(try clear c6);(try clear p4);(try clear q4);(try clear h4);(try clear c15);(try clear p1);(try clear c0);(try clear f0);(try clear f1);(try clear c1);(try clear f3);(try clear f4);(try clear q11);(try clear c2);(try clear f5);(try clear f6);(try clear p0);(try clear q0);(try clear h0);(try clear q1);(try clear c4);(try clear c3);(try clear f7);(try clear f8);(try clear c5);(try clear c7);(try clear f10);(try clear c8);(try clear f11);(try clear p2);(try clear q2);(try clear h1);(try clear p7);(try clear q7);(try clear h7);(try clear c9);(try clear f12);(try clear f13);(try clear p8);(try clear q8);(try clear h8);(try clear p3);(try clear q3);(try clear h2);(try clear c10);(try clear f15);(try clear f16);(try clear c11);(try clear f17);(try clear f18);(try clear c12);(try clear f19);(try clear c13);(try clear f20);(try clear c14);(try clear f21);(try clear f22);(try clear c16);(try clear f24);(try clear c17);(try clear f25);(try clear c18);(try clear f26);(try clear f27);(try clear c19);(try clear c20);(try clear f29);(try clear f30);(try clear c21);(try clear f31);(try clear f32);(try clear q10);(try clear c22);(try clear c23);(try clear f33);(try clear f34);(try clear c24);(try clear c25);(try clear f35);(try clear c26);(try clear f36);(try clear c27);(try clear h5);(try clear h6);(try clear h9);(try clear h20);(try clear p4);(try clear p2);(try clear p7);(try clear p5);(try clear p8);(try clear p6);(try clear p9);(try clear p10);(try clear p3);(try clear p1);(try clear p0);(try clear q4);(try clear q2);(try clear q7);(try clear q5);(try clear q8);(try clear q6);(try clear q9);(try clear q12);(try clear q3);(try clear q11);(try clear q10);(try clear q0);obtain⟨x7,x8,rfl,rfl,HA,K2,O2,HB⟩:=hrel
           cases gk with
           |zero=>exact absurd HA.out (by simp[spec_CleanPath.l2])
           |succ k6=>
            have H:=HA.out;clear HA;simp only[spec_CleanPath.l2]at H
            by_cases c28:x8<(x2.length:Int)
            ·rw[if_pos c28]at H;have f37:=decide_eq_true c28;clear c28
             replace H:=ifS_ H;obtain⟨c29,H⟩:=H;obtain⟨f38,f39⟩:=dT_ c29;try have f40:=eq_false (Nat.not_lt.2 c29)
             replace H:=ifS_ H;obtain⟨c30,H⟩:=H;have f41:=decide_eq_true c30;clear c30
             replace H:=ifS_ H;obtain⟨c31,H⟩:=H;obtain⟨f42,f43⟩:=dT_ c31;(try have f44:=eq_false (Nat.not_lt.2 c31));(try have f45:=f44;simp only[ByteArray.size_append,show(⟨#[47]⟩:ByteArray).size=1 from rfl]at f45;have f46:=f45);have H':=Aside0.mk H;clear H;obtain⟨a5,o4,e8⟩:=Kd.R_slice O2.out;subst e8;have p11:0≤(x8:Int):=of_decide_eq_true za_;have q13:x8<(x2.length:Int):=of_decide_eq_true za_;obtain⟨d4,e9,h21⟩:=Kd.at_string (Kd.R_reads' O2.out).2.2 x8 p11 q13;cases e9;replace p11:=eq_true p11;replace q13:=eq_true q13;go_wp2
             go_roundg k6
             (case measure=>have:=J0.out;have:=K0.out;have:=K1.out;have:=K2.out;omega);case rel=>exact⟨((x7++(⟨#[47]⟩:ByteArray))++(rdOf ByteArray.empty x2 x8)),(wrap64 (x8+1)),zr_,zr_,H',⟨by have:=J0.out;have:=K0.out;have:=K1.out;have:=K2.out;omega⟩,⟨zz36⟩,⟨zb_⟩⟩
            ·rw[if_neg c28]at H;have f37:=decide_eq_false c28;clear c28
             by_cases c32:x7.toList=([]:List UInt8)
             ·rw[if_pos c32]at H;have f47:=beq_iff_eq.mpr c32;have f48:x7.toList.isEmpty=true:=by have hz_:=beq_iff_eq.1 f47;rw[hz_];rfl
              (try rw[f48]);have f49:=bne_eq_false_iff_eq.mpr c32;clear c32;obtain rfl:=Option.some.inj H;obtain⟨a6,o5,e10⟩:=Kd.R_slice O2.out;subst e10;go_wp2
              go_ret;exact⟨ze_,zb_⟩
             ·rw[if_neg c32]at H;have f47:=beq_eq_false_iff_ne.mpr c32;have f48:x7.toList.isEmpty=false:=by cases hz_:x7.toList with|nil=>(rw[hz_]at f47;exact absurd f47 zz2)|cons _ _=>rfl
              (try rw[f48]);have f49:=bne_iff_ne.mpr c32;obtain rfl:=Option.some.inj H;obtain⟨a7,o6,e11⟩:=Kd.R_slice O2.out;subst e11;go_wp2
              go_ret;exact⟨ze_,zb_⟩
end Go.Proofs.YthmehmehoehlpaaGreatDoor.GFnExactRecText
