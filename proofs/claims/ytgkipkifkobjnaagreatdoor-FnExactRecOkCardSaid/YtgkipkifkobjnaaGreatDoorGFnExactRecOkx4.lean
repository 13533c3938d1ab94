-- Printed by gen.py and its programs for this claim.
import Derived.Test.YtgkipkifkobjnaaGreatDoorGFnExactRecOkx0
import Derived.Test.YtgkipkifkobjnaaGreatDoorGFnExactRecOkx1
import Derived.Test.YtgkipkifkobjnaaGreatDoorGFnExactRecOkx2
import Derived.Test.YtgkipkifkobjnaaGreatDoorGFnExactRecOkx3
import Derived.Test.YtgkipkifkobjnaaGreatDoorZFnExactRecOk
namespace Go.Proofs.YtgkipkifkobjnaaGreatDoor.GFnExactRecOk
open Go.RowKit Go.Proofs.YtgkipkifkobjnaaGreatDoorW.PrintWords Go.Proofs.YtgkipkifkobjnaaGreatDoorW.PrintLast Go.Proofs.YtgkipkifkobjnaaGreatDoorW.PrintMore Go.Proofs.YtgkipkifkobjnaaGreatDoorW.Zs
set_option maxHeartbeats 40000000
set_option maxRecDepth 100000
attribute [local go_sem] max2_int min2_int max_two min_two max_three min_three max_four min_four
set_option linter.unusedVariables false
set_option linter.unusedSimpArgs false
theorem spec_CleanPath_ownB (A:Option Addr) (n c:Nat):(Value.slice A n c).ownBlock=A.map Addr.block:=by cases A<;>rfl
mutual
def spec_CleanPath.j0:Nat→ByteArray→Bool→Option (ByteArray)
 |0,_,_=>none
 |k+1,x0,x27=>if x27=true then(some (⟨#[]⟩:ByteArray))else(spec_CleanPath.l0 k x0 0)
def spec_CleanPath.l0:Nat→ByteArray→Int→Option (ByteArray)
 |0,_,_=>none
 |k+1,x0,x3=>if x3<(x0.size:Int)then(if 0≤x3 then(if(bt x0 x3)=35 then(some (⟨#[]⟩:ByteArray))else(if(bt x0 x3)=63 then(some (⟨#[]⟩:ByteArray))else(spec_CleanPath.l0 k x0 (wrap64 (x3+1)))))else(none))else((spec_l7percent.f k x0).bind fun t145=>(if 1≤(t145.size:Int)then((spec_l7split.f k (t145.extract 1 t145.size) 47).bind fun t146=>(spec_CleanPath.l1 k t146 ([]:List ByteArray) 0))else(none)))
def spec_CleanPath.l1:Nat→List ByteArray→List ByteArray→Int→Option (ByteArray)
 |0,_,_,_=>none
 |k+1,x4,x5,x6=>if x6<(x4.length:Int)then(if 0≤x6 then(if(rdOf ByteArray.empty x4 x6).toList=([46]:List UInt8)then(spec_CleanPath.j3 k x4 x5 x6 true)else(spec_CleanPath.j3 k x4 x5 x6 ((rdOf ByteArray.empty x4 x6).toList==([46,46]:List UInt8))))else(none))else(spec_CleanPath.l2 k x5 (⟨#[]⟩:ByteArray) 0)
def spec_CleanPath.j3:Nat→List ByteArray→List ByteArray→Int→Bool→Option (ByteArray)
 |0,_,_,_,_=>none
 |k+1,x4,x5,x6,x7=>if 0≤x6 then(if x6<(x4.length:Int)then(if(rdOf ByteArray.empty x4 x6).toList=([46,46]:List UInt8)then(spec_CleanPath.j4 k x4 x5 x6 x7 (decide ((x5.length:Int)>0)))else(spec_CleanPath.j4 k x4 x5 x6 x7 false))else(none))else(none)
def spec_CleanPath.j4:Nat→List ByteArray→List ByteArray→Int→Bool→Bool→Option (ByteArray)
 |0,_,_,_,_,_=>none
 |k+1,x4,x5,x6,x7,x75=>if x75=true then(if 0≤(wrap64 ((x5.length:Int)-1))then(if(wrap64 ((x5.length:Int)-1))≤(x5.length:Int)then(spec_CleanPath.j5 k x4 (x5.take ((wrap64 ((x5.length:Int)-1)):Int).toNat) x6 x7)else(none))else(none))else(spec_CleanPath.j5 k x4 x5 x6 x7)
def spec_CleanPath.j5:Nat→List ByteArray→List ByteArray→Int→Bool→Option (ByteArray)
 |0,_,_,_,_=>none
 |k+1,x4,x5,x6,x7=>if x7=true then(if(wrap64 (x6+1))=(x4.length:Int)then(if x5.length<8796093022208 then(spec_CleanPath.l1 k x4 (x5++ [(⟨#[]⟩:ByteArray)]) (wrap64 (x6+1)))else(none))else(spec_CleanPath.l1 k x4 x5 (wrap64 (x6+1))))else(if 0≤x6 then(if x6<(x4.length:Int)then(if x5.length<8796093022208 then(spec_CleanPath.l1 k x4 (x5++ [rdOf ByteArray.empty x4 x6]) (wrap64 (x6+1)))else(none))else(none))else(none))
def spec_CleanPath.l2:Nat→List ByteArray→ByteArray→Int→Option (ByteArray)
 |0,_,_,_=>none
 |k+1,x5,x8,x9=>if x9<(x5.length:Int)then(if x8.size+1≤9223372036854775807 then(if 0≤x9 then(if(x8++(⟨#[47]⟩:ByteArray)).size+(rdOf ByteArray.empty x5 x9).size≤9223372036854775807 then(spec_CleanPath.l2 k x5 ((x8++(⟨#[47]⟩:ByteArray))++(rdOf ByteArray.empty x5 x9)) (wrap64 (x9+1)))else(none))else(none))else(none))else(if x8.toList=([]:List UInt8)then(some (⟨#[47]⟩:ByteArray))else(some x8))
end
def spec_CleanPath.f (k:Nat) (a0:ByteArray):Option (ByteArray):=if(a0.size:Int)=0 then(spec_CleanPath.j0 k a0 true)else(if(a0.size:Int)>200 then(spec_CleanPath.j0 k a0 true)else(if 0<(a0.size:Int)then(if(bt a0 0)=47 then((spec_l6visible.f k a0).bind fun t144=>(spec_CleanPath.j0 k a0 (!t144)))else(spec_CleanPath.j0 k a0 true))else(none)))
theorem spec_CleanPath.calls (k:Nat) (a0 r:ByteArray) (w:World) (h:spec_CleanPath.f k a0=some r):
  Calls Tryz.prog 50 #[.string a0] w fun e w'=>e= .returned (.string r)∧Below w.heap.size w w':=by
 have HB:=Aside0.mk (Below.refl w.heap.size w);have H:(if(a0.size:Int)=0 then(spec_CleanPath.j0 k a0 true)else(if(a0.size:Int)>200 then(spec_CleanPath.j0 k a0 true)else(if 0<(a0.size:Int)then(if(bt a0 0)=47 then((spec_l6visible.f k a0).bind fun t144=>(spec_CleanPath.j0 k a0 (!t144)))else(spec_CleanPath.j0 k a0 true))else(none))))=some r:=h;clear h;have HC2:=Aside0.mk H;clear H;go_enter Tryz.func50,Tryz.ntmps50
 go_upto_region 1 with(fail)
 go_cut [27] (fun v27 wc=> ∃(kq:Nat) (x27_1:Bool),v27= .bool x27_1∧Aside0 (spec_CleanPath.j0 kq a0 x27_1=some r)∧Aside0 (kq≤k)∧Aside0 (Below w.heap.size w wc))
 case first=>
  have H:=HC2.out;clear HC2
  by_cases c3:(a0.size:Int)=0
  ·rw[if_pos c3]at H;have c3b0:((a0.size:Int)==0)=true:=beq_iff_eq.mpr c3;have c3b1:((a0.size:Int)!=0)=false:=bne_eq_false_iff_eq.mpr c3;clear c3;(first|rw[c3b0]|(simp only[i64_w,i32_w];rw[c3b0])|rw[c3b1]|(rw[c3b2];simp only[Bool.not_true,Bool.not_false])|skip);have H':=Aside0.mk H;clear H;go_wp2
   go_meet
   case rel=>exact⟨_,(true),zz1,H',⟨zz23⟩,⟨zz0⟩⟩
  ·rw[if_neg c3]at H;have c3b0:((a0.size:Int)==0)=false:=beq_eq_false_iff_ne.mpr c3;have c3b1:((a0.size:Int)!=0)=true:=bne_iff_ne.mpr c3;(first|rw[c3b0]|(simp only[i64_w,i32_w];rw[c3b0])|rw[c3b1]|(rw[c3b2];simp only[Bool.not_true,Bool.not_false])|skip)
   by_cases c4:(a0.size:Int)>200
   ·rw[if_pos c4]at H;have c4b0:decide (200<(a0.size:Int))=true:=decide_eq_true c4;have c4b1:decide (200<a0.size)=true:=decide_eq_true (by omega);clear c4;have H':=Aside0.mk H;clear H;go_wp2
    go_meet
    case rel=>exact⟨_,(true),zz1,H',⟨zz23⟩,⟨zz0⟩⟩
   ·rw[if_neg c4]at H;have c4b0:decide (200<(a0.size:Int))=false:=decide_eq_false c4;have c4b1:decide (200<a0.size)=false:=decide_eq_false (by omega);clear c4
    by_cases c5:0<(a0.size:Int)
    ·rw[if_pos c5]at H;have c5b0:decide (0<(a0.size:Int))=true:=decide_eq_true c5;have c5b1:decide (0<a0.size)=true:=decide_eq_true (by omega);clear c5;have HC7:=Aside0.mk H;clear H;have p6:0≤(0:Int):=(by omega);have q6:0<a0.size:=(by have:(0:Int)<(a0.size:Int):=of_decide_eq_true zz3;omega);have hx6: ∀h:0<a0.size,((a0[0]'h).toNat:Int)=bt a0 0:=bt_at a0 0;clear p6;have qi6:(0<(a0.size:Int))=True:=eq_true (of_decide_eq_true zz3);replace q6:=eq_true q6
     repeat' (first|(go_big_may;(fail))|go_values|go_skip|go_big_skip|go_big_want|((first|(with_reducible refine gate_nog rfl ?_)|(fail_if_success with_reducible refine gate_any ?_));go_step)|go_upon|simp only[Bool.not_true,Bool.not_false,Bool.true_and,Bool.false_and,Bool.true_or,Bool.false_or]|dsimp only)
     have H:=HC7.out;clear HC7
     by_cases c8:(bt a0 0)=47
     ·rw[if_pos c8]at H;have c8b0:((bt a0 0)==47)=true:=beq_iff_eq.mpr c8;have c8b1:((bt a0 0)!=47)=false:=bne_eq_false_iff_eq.mpr c8;clear c8;(first|rw[c8b0]|(simp only[i64_w,i32_w];rw[c8b0])|rw[c8b1]|(rw[c8b2];simp only[Bool.not_true,Bool.not_false])|skip);replace H:=Option.bind_eq_some_iff.mp H;obtain⟨t144,A90,H⟩:=H;(try dsimp only at H);have A9:=Aside0.mk A90;clear A90;have H':=Aside0.mk H;clear H;go_wp2_with (first|(go_at_call 46;(with_reducible refine(spec_l6visible.calls k a0 t144 _ A9.out).mono ?_);rintro e w' ⟨rfl,⟨nd,rfl⟩⟩))
      go_meet
      case rel=>exact⟨_,(!t144),zz1,H',⟨zz23⟩,⟨zz0⟩⟩
     ·rw[if_neg c8]at H;have c8b0:((bt a0 0)==47)=false:=beq_eq_false_iff_ne.mpr c8;have c8b1:((bt a0 0)!=47)=true:=bne_iff_ne.mpr c8;(first|rw[c8b0]|(simp only[i64_w,i32_w];rw[c8b0])|rw[c8b1]|(rw[c8b2];simp only[Bool.not_true,Bool.not_false])|skip);have H':=Aside0.mk H;clear H;go_wp2
      go_meet
      case rel=>exact⟨_,(true),zz1,H',⟨zz23⟩,⟨zz0⟩⟩
    ·rw[if_neg c5]at H;exact absurd H (by simp)
 case rest=>as_aux_lemma=>
  clear HC2;(try clear p2);(try clear c3);(try clear c3b0);(try clear c3b1);(try clear c4);(try clear c4b0);(try clear c4b1);(try clear c5);(try clear c5b0);(try clear c5b1);(try clear p6);(try clear q6);(try clear hx6);(try clear qi6);(try clear c8);(try clear c8b0);(try clear c8b1);(try clear p6);(try clear q6);obtain⟨kq,x27_1,rfl,HA,HJ1,HB⟩:=hcut
  cases kq with
  |zero=>exact absurd HA.out (by simp[spec_CleanPath.j0])
  |succ kj1=>
   have H:=HA.out;clear HA;simp only[spec_CleanPath.j0]at H
   by_cases c10:x27_1=true
   ·subst c10;rw[if_pos rfl]at H;obtain rfl:=Option.some.inj H;go_wp2
    go_ret;exact⟨zz2,zz0⟩
   ·as_aux_lemma=>
    replace c10:=Bool.eq_false_iff.mpr c10;subst c10;rw[if_neg Bool.false_ne_true]at H;have H':=Aside0.mk H;clear H;go_wp2
    go_loopg [3] kj1 (fun kq v3 w'=> ∃(x3_2:Int),v3= .int .i64 x3_2∧Aside0 (spec_CleanPath.l0 kq a0 x3_2=some r)∧Aside0 (kq≤kj1)∧Aside0 (Below w.heap.size w w'))
    case atStart=>exact⟨(0),zz1,H',⟨Nat.le_refl _⟩,⟨zz0⟩⟩
    case round=>as_aux_lemma=>
     clear H';(try clear c1);(try clear p2);(try clear c3);(try clear c3b0);(try clear c3b1);(try clear c4);(try clear c4b0);(try clear c4b1);(try clear c5);(try clear c5b0);(try clear c5b1);(try clear p6);(try clear q6);(try clear hx6);(try clear qi6);(try clear c8);(try clear c8b0);(try clear c8b1);(try clear c10);(try clear p2);(try clear p6);(try clear q6);obtain⟨x3_2,rfl,HA,HK2,HB⟩:=hrel
     cases gk with
     |zero=>exact absurd HA.out (by simp[spec_CleanPath.l0])
     |succ k2=>
      have H:=HA.out;clear HA;simp only[spec_CleanPath.l0]at H
      by_cases c11:x3_2<(a0.size:Int)
      ·rw[if_pos c11]at H;have c11b0:decide (x3_2<(a0.size:Int))=true:=decide_eq_true c11;clear c11
       by_cases c12:0≤x3_2
       ·rw[if_pos c12]at H;have c12b0:decide (0≤x3_2)=true:=decide_eq_true c12;clear c12;have HC14:=Aside0.mk H;clear H;have p13:0≤(x3_2:Int):=of_decide_eq_true zz3;have q13:x3_2<(a0.size:Int):=of_decide_eq_true zz3;have hx13:=bt_at a0 x3_2;replace p13:=eq_true p13;replace q13:=eq_true q13
        repeat' (first|(go_big_may;(fail))|go_values|go_skip|go_big_skip|go_big_want|((first|(with_reducible refine gate_nog rfl ?_)|(fail_if_success with_reducible refine gate_any ?_));go_step)|go_upon|simp only[Bool.not_true,Bool.not_false,Bool.true_and,Bool.false_and,Bool.true_or,Bool.false_or]|dsimp only)
        have H:=HC14.out;clear HC14
        by_cases c15:(bt a0 x3_2)=35
        ·rw[if_pos c15]at H;have c15b0:((bt a0 x3_2)==35)=true:=beq_iff_eq.mpr c15;have c15b1:((bt a0 x3_2)!=35)=false:=bne_eq_false_iff_eq.mpr c15;clear c15;(first|rw[c15b0]|(simp only[i64_w,i32_w];rw[c15b0])|rw[c15b1]|(rw[c15b2];simp only[Bool.not_true,Bool.not_false])|skip);obtain rfl:=Option.some.inj H;go_wp2
         go_ret;exact⟨zz2,zz0⟩
        ·rw[if_neg c15]at H;have c15b0:((bt a0 x3_2)==35)=false:=beq_eq_false_iff_ne.mpr c15;have c15b1:((bt a0 x3_2)!=35)=true:=bne_iff_ne.mpr c15;(first|rw[c15b0]|(simp only[i64_w,i32_w];rw[c15b0])|rw[c15b1]|(rw[c15b2];simp only[Bool.not_true,Bool.not_false])|skip)
         by_cases c17:(bt a0 x3_2)=63
         ·rw[if_pos c17]at H;have c17b0:((bt a0 x3_2)==63)=true:=beq_iff_eq.mpr c17;have c17b1:((bt a0 x3_2)!=63)=false:=bne_eq_false_iff_eq.mpr c17;clear c17;obtain rfl:=Option.some.inj H;have p16:0≤(x3_2:Int):=of_decide_eq_true zz3;have q16:x3_2<(a0.size:Int):=of_decide_eq_true zz3;have hx16:=bt_at a0 x3_2;replace p16:=eq_true p16;replace q16:=eq_true q16;go_wp2
          go_ret;exact⟨zz2,zz0⟩
         ·rw[if_neg c17]at H;have c17b0:((bt a0 x3_2)==63)=false:=beq_eq_false_iff_ne.mpr c17;have c17b1:((bt a0 x3_2)!=63)=true:=bne_iff_ne.mpr c17;have H':=Aside0.mk H;clear H;have p16:0≤(x3_2:Int):=of_decide_eq_true zz3;have q16:x3_2<(a0.size:Int):=of_decide_eq_true zz3;have hx16:=bt_at a0 x3_2;replace p16:=eq_true p16;replace q16:=eq_true q16;go_wp2
          go_roundg k2
          (case measure=>have:=HJ1.out;have:=HK2.out;omega);case rel=>exact⟨(wrap64 (x3_2+1)),zz1,H',⟨zz85⟩,⟨zz0⟩⟩
       ·rw[if_neg c12]at H;exact absurd H (by simp)
      ·as_aux_lemma=>
       rw[if_neg c11]at H;have c11b0:decide (x3_2<(a0.size:Int))=false:=decide_eq_false c11;clear c11;replace H:=Option.bind_eq_some_iff.mp H;obtain⟨t145,A180,H⟩:=H;(try dsimp only at H);have A18:=Aside0.mk A180;clear A180
       by_cases c19:1≤(t145.size:Int)
       ·as_aux_lemma=>
        rw[if_pos c19]at H;have c19b0:=eq_true c19;have c19b1:decide (1≤(t145.size:Int))=true:=decide_eq_true c19;clear c19;replace H:=Option.bind_eq_some_iff.mp H;obtain⟨t146,A200,H⟩:=H;(try dsimp only at H);have A20:=Aside0.mk A200;clear A200;have H':=Aside0.mk H;clear H;go_wp2_with (first|((with_reducible refine gate_callee (f:=79) rfl ?_);refine goesR_ 45 Tryz.func79 #[.string a0] (spec_l7percent.calls k2 a0 t145 _ A18.out) ?_;rintro w21 hb;replace HB:=Aside0.mk (below_step zz0 hb);(try clear hb))|((with_reducible refine gate_callee (f:=78) rfl ?_);refine goesQ_ 47 Tryz.func78 #[.string (t145.extract 1 t145.size),.int .u8 47] ?_;(with_reducible refine(spec_l7split.calls k2 (t145.extract 1 t145.size) 47 t146 _ A20.out).mono ?_);rintro e w22 ⟨v147,rfl,ho0,hb⟩;refine⟨_,rfl,?_⟩;have HO148:=Aside0.mk (Kd.R_lower ho0 (below_size zz0));replace HB:=Aside0.mk (below_step zz0 hb);(try clear hb);(try clear ho0)))
        go_loopg [5,6] k2 (fun kq v5 v6 w'=> ∃(x5_3:List ByteArray) (x6_3:Int),v6= .int .i64 x6_3∧Aside0 (spec_CleanPath.l1 kq t146 x5_3 x6_3=some r)∧Aside0 (kq≤k2)∧Aside0 (Kd.R Kd.string 9 w' w.heap.size (fun k_=>some k_≠(v5:Value).ownBlock) v147 t146)∧Aside0 (Kd.R Kd.string 9 w' w.heap.size (fun k_=>some k_≠(v147:Value).ownBlock) v5 x5_3)∧Aside0 (Below w.heap.size w w'))
        case atStart=>exact⟨(([]:List ByteArray)),(0),zz1,H',⟨Nat.le_refl _⟩,⟨by(with_reducible repeat(first|apply Kd.R_alloc|apply Kd.R_drewN|apply Kd.R_drew));exact Kd.R_mono HO148.out (fun _ hk=>(by simp[Value.ownBlock]))⟩,⟨zz21⟩,⟨zz0⟩⟩
        case round=>as_aux_lemma=>
         clear H';(try clear c1);(try clear p1);(try clear q1);(try clear hx1);(try clear p2);(try clear c3);(try clear c3b0);(try clear c3b1);(try clear c4);(try clear c4b0);(try clear c4b1);(try clear c5);(try clear c5b0);(try clear c5b1);(try clear p6);(try clear q6);(try clear hx6);(try clear qi6);(try clear c7);(try clear c8);(try clear c8b0);(try clear c8b1);(try clear c10);(try clear c11);(try clear c11b0);(try clear c12);(try clear c12b0);(try clear p13);(try clear q13);(try clear hx13);(try clear c15);(try clear c15b0);(try clear c15b1);(try clear p16);(try clear q16);(try clear hx16);(try clear c17);(try clear c17b0);(try clear c17b1);(try clear c19);(try clear c19b0);(try clear c19b1);(try clear p13);(try clear p16);(try clear p2);(try clear p6);(try clear q13);(try clear q16);(try clear q6);obtain⟨x5_3,x6_3,rfl,HA,HK3,HO_4,HO_5,HB⟩:=hrel
         cases gk with
         |zero=>exact absurd HA.out (by simp[spec_CleanPath.l1])
         |succ k3=>
          have H:=HA.out;clear HA;simp only[spec_CleanPath.l1]at H
          by_cases c23:x6_3<(t146.length:Int)
          ·as_aux_lemma=>
           rw[if_pos c23]at H;have c23b0:decide (x6_3<(t146.length:Int))=true:=decide_eq_true c23;clear c23;have HC24:=Aside0.mk H;clear H;obtain⟨Ao25,co25,eo25⟩:=Kd.R_slice HO_4.out;subst eo25;go_upto_region 13 with(fail)
           go_cut [7] (fun v7 wc=> ∃(kq:Nat) (x7_23:Bool),v7= .bool x7_23∧Aside0 (spec_CleanPath.j3 kq t146 x5_3 x6_3 x7_23=some r)∧Aside0 (kq≤k3)∧Aside0 (Kd.R Kd.string 9 wc w.heap.size (fun k_=>some k_≠(u5:Value).ownBlock) (.slice Ao25 t146.length co25) t146)∧Aside0 (Kd.R Kd.string 9 wc w.heap.size (fun k_=>some k_≠((.slice Ao25 t146.length co25):Value).ownBlock) u5 x5_3)∧Aside0 (Below w.heap.size w wc))
           case first=>
            have H:=HC24.out;clear HC24
            by_cases c26:0≤x6_3
            ·rw[if_pos c26]at H;have c26b0:decide (0≤x6_3)=true:=decide_eq_true c26;clear c26;(first|rw[c26b0]|(simp only[i64_w,i32_w];rw[c26b0])|skip);have HC27:=Aside0.mk H;clear H;have p149:0≤(x6_3:Int):=of_decide_eq_true zz3;have q149:x6_3<(t146.length:Int):=of_decide_eq_true zz3;obtain⟨ad149,e149,hx149_0⟩:=Kd.at_string (Kd.R_reads' HO_4.out).2.2 x6_3 p149 q149;cases e149;replace p149:=eq_true p149;replace q149:=eq_true q149
             repeat' (first|(go_big_may;(fail))|go_values|go_skip|go_big_skip|go_big_want|((first|(with_reducible refine gate_nog rfl ?_)|(fail_if_success with_reducible refine gate_any ?_));go_step)|go_upon|simp only[Bool.not_true,Bool.not_false,Bool.true_and,Bool.false_and,Bool.true_or,Bool.false_or]|dsimp only)
             have H:=HC27.out;clear HC27
             by_cases c28:(rdOf ByteArray.empty t146 x6_3).toList=([46]:List UInt8)
             ·rw[if_pos c28]at H;have c28b0:((rdOf ByteArray.empty t146 x6_3).toList==([46]:List UInt8))=true:=beq_iff_eq.mpr c28;have c28b1:((rdOf ByteArray.empty t146 x6_3).toList !=([46]:List UInt8))=false:=bne_eq_false_iff_eq.mpr c28;clear c28;(first|rw[c28b0]|(simp only[i64_w,i32_w];rw[c28b0])|rw[c28b1]|(rw[c28b2];simp only[Bool.not_true,Bool.not_false])|skip);have H':=Aside0.mk H;clear H;go_wp2
              go_meet
              case rel=>exact⟨_,(true),zz1,H',⟨by have:=HJ1.out;have:=HK2.out;have:=HK3.out;first|omega|exact Nat.le_refl _⟩,⟨zz106⟩,⟨zz105⟩,⟨zz0⟩⟩
             ·rw[if_neg c28]at H;have c28b0:((rdOf ByteArray.empty t146 x6_3).toList==([46]:List UInt8))=false:=beq_eq_false_iff_ne.mpr c28;have c28b1:((rdOf ByteArray.empty t146 x6_3).toList !=([46]:List UInt8))=true:=bne_iff_ne.mpr c28;(first|rw[c28b0]|(simp only[i64_w,i32_w];rw[c28b0])|rw[c28b1]|(rw[c28b2];simp only[Bool.not_true,Bool.not_false])|skip);have H':=Aside0.mk H;clear H;have p150:0≤(x6_3:Int):=of_decide_eq_true zz3;have q150:x6_3<(t146.length:Int):=of_decide_eq_true zz3;obtain⟨ad150,e150,hx150_0⟩:=Kd.at_string (Kd.R_reads' HO_4.out).2.2 x6_3 p150 q150;obtain rfl:ad149=ad150:=(by injection e150);replace p150:=eq_true p150;replace q150:=eq_true q150;go_wp2
              go_meet
              case rel=>exact⟨_,(((rdOf ByteArray.empty t146 x6_3).toList==([46,46]:List UInt8))),zz1,H',⟨by have:=HJ1.out;have:=HK2.out;have:=HK3.out;first|omega|exact Nat.le_refl _⟩,⟨zz106⟩,⟨zz105⟩,⟨zz0⟩⟩
            ·rw[if_neg c26]at H;exact absurd H (by simp)
           case rest=>as_aux_lemma=>
            clear HC24;(try clear c1);(try clear p1);(try clear q1);(try clear hx1);(try clear c2);(try clear p2);(try clear c3);(try clear c3b0);(try clear c3b1);(try clear c4);(try clear c4b0);(try clear c4b1);(try clear c5);(try clear c5b0);(try clear c5b1);(try clear p6);(try clear q6);(try clear hx6);(try clear qi6);(try clear c7);(try clear c8);(try clear c8b0);(try clear c8b1);(try clear c10);(try clear c11);(try clear c11b0);(try clear c12);(try clear c12b0);(try clear p13);(try clear q13);(try clear hx13);(try clear p14);(try clear q14);(try clear hx14);(try clear c15);(try clear c15b0);(try clear c15b1);(try clear p15);(try clear q15);(try clear hx15);(try clear p16);(try clear q16);(try clear hx16);(try clear c17);(try clear c17b0);(try clear c17b1);(try clear c19);(try clear c19b0);(try clear c19b1);(try clear c23);(try clear c23b0);(try clear c26);(try clear c26b0);(try clear c28);(try clear c28b0);(try clear c28b1);(try clear hx149_0);(try clear hx150_0);(try clear p1);(try clear p13);(try clear p149);(try clear p150);(try clear p16);(try clear p2);(try clear p6);(try clear q1);(try clear q13);(try clear q149);(try clear q150);(try clear q16);(try clear q6);obtain⟨kq,x7_23,rfl,HA,HJ23,HO_4,HO_5,HB⟩:=hcut
            cases kq with
            |zero=>exact absurd HA.out (by simp[spec_CleanPath.j3])
            |succ kj23=>
             have H:=HA.out;clear HA;simp only[spec_CleanPath.j3]at H;have HC29:=Aside0.mk H;clear H;go_upto_region 14 with(fail)
             go_cut [75] (fun v75 wc=> ∃(kq:Nat) (x75_28:Bool),v75= .bool x75_28∧Aside0 (spec_CleanPath.j4 kq t146 x5_3 x6_3 x7_23 x75_28=some r)∧Aside0 (kq≤kj23)∧Aside0 (Kd.R Kd.string 9 wc w.heap.size (fun k_=>some k_≠(u5:Value).ownBlock) (.slice Ao25 t146.length co25) t146)∧Aside0 (Kd.R Kd.string 9 wc w.heap.size (fun k_=>some k_≠((.slice Ao25 t146.length co25):Value).ownBlock) u5 x5_3)∧Aside0 (Below w.heap.size w wc))
             case first=>
              have H:=HC29.out;clear HC29
              by_cases c30:0≤x6_3
              ·rw[if_pos c30]at H;have c30b0:decide (0≤x6_3)=true:=decide_eq_true c30;clear c30;(first|rw[c30b0]|(simp only[i64_w,i32_w];rw[c30b0])|skip)
               by_cases c31:x6_3<(t146.length:Int)
               ·rw[if_pos c31]at H;have c31b0:decide (x6_3<(t146.length:Int))=true:=decide_eq_true c31;clear c31;have HC32:=Aside0.mk H;clear H;have p151:0≤(x6_3:Int):=of_decide_eq_true zz3;have q151:x6_3<(t146.length:Int):=of_decide_eq_true zz3;obtain⟨ad151,e151,hx151_0⟩:=Kd.at_string (Kd.R_reads' HO_4.out).2.2 x6_3 p151 q151;cases e151;replace p151:=eq_true p151;replace q151:=eq_true q151
                repeat' (first|(go_big_may;(fail))|go_values|go_skip|go_big_skip|go_big_want|((first|(with_reducible refine gate_nog rfl ?_)|(fail_if_success with_reducible refine gate_any ?_));go_step)|go_upon|simp only[Bool.not_true,Bool.not_false,Bool.true_and,Bool.false_and,Bool.true_or,Bool.false_or]|dsimp only)
                have H:=HC32.out;clear HC32
                by_cases c33:(rdOf ByteArray.empty t146 x6_3).toList=([46,46]:List UInt8)
                ·rw[if_pos c33]at H;have c33b0:((rdOf ByteArray.empty t146 x6_3).toList==([46,46]:List UInt8))=true:=beq_iff_eq.mpr c33;have c33b1:((rdOf ByteArray.empty t146 x6_3).toList !=([46,46]:List UInt8))=false:=bne_eq_false_iff_eq.mpr c33;clear c33;(first|rw[c33b0]|(simp only[i64_w,i32_w];rw[c33b0])|rw[c33b1]|(rw[c33b2];simp only[Bool.not_true,Bool.not_false])|skip);have H':=Aside0.mk H;clear H;obtain⟨Ao34,co34,eo34⟩:=Kd.R_slice HO_5.out;subst eo34;go_wp2
                 go_meet
                 case rel=>exact⟨_,(decide ((x5_3.length:Int)>0)),zz1,H',⟨by have:=HJ1.out;have:=HK2.out;have:=HK3.out;have:=HJ23.out;first|omega|exact Nat.le_refl _⟩,⟨zz106⟩,⟨zz105⟩,⟨zz0⟩⟩
                ·rw[if_neg c33]at H;have c33b0:((rdOf ByteArray.empty t146 x6_3).toList==([46,46]:List UInt8))=false:=beq_eq_false_iff_ne.mpr c33;have c33b1:((rdOf ByteArray.empty t146 x6_3).toList !=([46,46]:List UInt8))=true:=bne_iff_ne.mpr c33;(first|rw[c33b0]|(simp only[i64_w,i32_w];rw[c33b0])|rw[c33b1]|(rw[c33b2];simp only[Bool.not_true,Bool.not_false])|skip);have H':=Aside0.mk H;clear H;go_wp2
                 go_meet
                 case rel=>exact⟨_,(false),zz1,H',⟨by have:=HJ1.out;have:=HK2.out;have:=HK3.out;have:=HJ23.out;first|omega|exact Nat.le_refl _⟩,⟨zz106⟩,⟨zz105⟩,⟨zz0⟩⟩
               ·rw[if_neg c31]at H;exact absurd H (by simp)
              ·rw[if_neg c30]at H;exact absurd H (by simp)
             case rest=>as_aux_lemma=>
              clear HC29;(try clear c1);(try clear p1);(try clear q1);(try clear hx1);(try clear c2);(try clear p2);(try clear c3);(try clear c3b0);(try clear c3b1);(try clear c4);(try clear c4b0);(try clear c4b1);(try clear c5);(try clear c5b0);(try clear c5b1);(try clear p6);(try clear q6);(try clear hx6);(try clear qi6);(try clear c7);(try clear c8);(try clear c8b0);(try clear c8b1);(try clear c10);(try clear c11);(try clear c11b0);(try clear c12);(try clear c12b0);(try clear p13);(try clear q13);(try clear hx13);(try clear p14);(try clear q14);(try clear hx14);(try clear c15);(try clear c15b0);(try clear c15b1);(try clear p15);(try clear q15);(try clear hx15);(try clear p16);(try clear q16);(try clear hx16);(try clear c17);(try clear c17b0);(try clear c17b1);(try clear c19);(try clear c19b0);(try clear c19b1);(try clear c23);(try clear c23b0);(try clear c26);(try clear c26b0);(try clear c28);(try clear c28b0);(try clear c28b1);(try clear c30);(try clear c30b0);(try clear c31);(try clear c31b0);(try clear c33);(try clear c33b0);(try clear c33b1);(try clear hx149_0);(try clear hx150_0);(try clear hx151_0);(try clear p1);(try clear p13);(try clear p14);(try clear p149);(try clear p15);(try clear p150);(try clear p151);(try clear p16);(try clear p2);(try clear p6);(try clear q1);(try clear q13);(try clear q14);(try clear q149);(try clear q15);(try clear q150);(try clear q151);(try clear q16);(try clear q6);obtain⟨kq,x75_28,rfl,HA,HJ28,HO_4,HO_5,HB⟩:=hcut
              cases kq with
              |zero=>exact absurd HA.out (by simp[spec_CleanPath.j4])
              |succ kj28=>
               have H:=HA.out;clear HA;simp only[spec_CleanPath.j4]at H;have HC35:=Aside0.mk H;clear H;go_upto_if 75 with(fail)
               go_cut [5] (fun v5 wc=> ∃(kq:Nat) (x5_34:List ByteArray),Aside0 (spec_CleanPath.j5 kq t146 x5_34 x6_3 x7_23=some r)∧Aside0 (kq≤kj28)∧Aside0 (Kd.R Kd.string 9 wc w.heap.size (fun k_=>some k_≠(v5:Value).ownBlock) (.slice Ao25 t146.length co25) t146)∧Aside0 (Kd.R Kd.string 9 wc w.heap.size (fun k_=>some k_≠((.slice Ao25 t146.length co25):Value).ownBlock) v5 x5_34)∧Aside0 (Below w.heap.size w wc))
               case first=>
                have H:=HC35.out;clear HC35
                by_cases c36:x75_28=true
                ·subst c36;rw[if_pos rfl]at H;obtain⟨ji37,hji37⟩: ∃j_:Int,(wrap64 ((x5_3.length:Int)-1))=j_:=⟨_,rfl⟩;replace H:(if 0≤(ji37)then(if(ji37)≤(x5_3.length:Int)then(spec_CleanPath.j5 kj28 t146 (x5_3.take ((ji37):Int).toNat) x6_3 x7_23)else(none))else(none))=some r:=by first|(rw[hji37]at H;exact H)|(simp only[hji37]at H ⊢;exact H)
                 have hji37w:(IntKind.i64.wrap ((x5_3.length:Int)-1))=ji37:=(i64_w _).trans hji37
                 by_cases c38:0≤(ji37)
                 ·rw[if_pos c38]at H;have c38b0:=eq_true c38;have c38b1:decide (0≤(ji37))=true:=decide_eq_true c38;clear c38
                  by_cases c39:(ji37)≤(x5_3.length:Int)
                  ·rw[if_pos c39]at H;have c39b0:=eq_true c39;have c39b1:decide ((ji37)≤(x5_3.length:Int))=true:=decide_eq_true c39;clear c39;obtain⟨y152,hy152⟩: ∃y_:List ByteArray,y_=(x5_3.take ((ji37):Int).toNat):=⟨_,rfl⟩;replace H:(spec_CleanPath.j5 kj28 t146 y152 x6_3 x7_23)=some r:=by first|(rw[hy152];with_reducible exact H)|(have H2_:=(Option.bind_some _ _).symm.trans H;rw[hy152];with_reducible exact H2_)|(have H2_:=(Option.bind_some _ _).symm.trans H;with_reducible exact H2_)|with_reducible exact H|(rw[hy152];exact H)|exact H
                   have Ny152:=Aside0.mk hy152;clear hy152;have H':=Aside0.mk H;clear H;obtain⟨Ao40,co40,eo40⟩:=Kd.R_slice HO_5.out;subst eo40;have q41:((ji37):Int)≤((x5_3.length:Int):Int):=of_decide_eq_true zz3;obtain⟨i041,hi041,_,hsz41,_⟩:=info_parts info9;have hcut41:=cut_to (P:=Tryz.prog) 71 9 .i64 Tryz.underlying71 hi041 Ao40 x5_3.length co40 (ji37) (of_decide_eq_true zz3) q41 (Kd.R_reads' HO_5.out).2.1;have hr41:=Kd.R_take (m:=((ji37):Int).toNat) HO_5.out (by omega);have hy41:y152.length=((ji37):Int).toNat:=(by rw[Ny152.out,List.length_take];omega);rw[←Ny152.out]at hr41;rw[←hy41]at hr41 hcut41;clear hy41 hi041 hsz41 HO_5;have HO154:=Aside0.mk hr41;clear hr41;replace q41:=eq_true q41;go_wp2
                   go_meet
                   case rel=>exact⟨_,(y152),H',⟨by have:=HJ1.out;have:=HK2.out;have:=HK3.out;have:=HJ23.out;have:=HJ28.out;first|omega|exact Nat.le_refl _⟩,⟨zz106⟩,⟨by(with_reducible repeat(first|apply Kd.R_alloc|apply Kd.R_drewN|apply Kd.R_drew));first|exact HO154.out|exact Kd.R_mono HO154.out (fun _ hk_=>zz43)⟩,⟨zz0⟩⟩
                  ·rw[if_neg c39]at H;exact absurd H (by simp)
                 ·rw[if_neg c38]at H;exact absurd H (by simp)
                ·replace c36:=Bool.eq_false_iff.mpr c36;subst c36;rw[if_neg Bool.false_ne_true]at H;have H':=Aside0.mk H;clear H;go_wp2
                 go_meet
                 case rel=>exact⟨_,(x5_3),H',⟨by have:=HJ1.out;have:=HK2.out;have:=HK3.out;have:=HJ23.out;have:=HJ28.out;first|omega|exact Nat.le_refl _⟩,⟨zz106⟩,⟨zz105⟩,⟨zz0⟩⟩
               case rest=>
                clear HC35;(try clear c1);(try clear p1);(try clear q1);(try clear hx1);(try clear c2);(try clear p2);(try clear c3);(try clear c3b0);(try clear c3b1);(try clear c4);(try clear c4b0);(try clear c4b1);(try clear q4);(try clear c5);(try clear c5b0);(try clear c5b1);(try clear p6);(try clear q6);(try clear hx6);(try clear qi6);(try clear c7);(try clear c8);(try clear c8b0);(try clear c8b1);(try clear c10);(try clear c11);(try clear c11b0);(try clear c12);(try clear c12b0);(try clear p13);(try clear q13);(try clear hx13);(try clear p14);(try clear q14);(try clear hx14);(try clear c15);(try clear c15b0);(try clear c15b1);(try clear p15);(try clear q15);(try clear hx15);(try clear p16);(try clear q16);(try clear hx16);(try clear c17);(try clear c17b0);(try clear c17b1);(try clear c19);(try clear c19b0);(try clear c19b1);(try clear c23);(try clear c23b0);(try clear c26);(try clear c26b0);(try clear c28);(try clear c28b0);(try clear c28b1);(try clear c30);(try clear c30b0);(try clear c31);(try clear c31b0);(try clear c33);(try clear c33b0);(try clear c33b1);(try clear c36);(try clear c38);(try clear c38b0);(try clear c38b1);(try clear c39);(try clear c39b0);(try clear c39b1);(try clear q41);(try clear hx149_0);(try clear hx150_0);(try clear hx151_0);(try clear p1);(try clear p13);(try clear p14);(try clear p149);(try clear p15);(try clear p150);(try clear p151);(try clear p16);(try clear p2);(try clear p6);(try clear q1);(try clear q13);(try clear q14);(try clear q149);(try clear q15);(try clear q150);(try clear q151);(try clear q16);(try clear q41);(try clear q6);obtain⟨kq,x5_34,HA,HJ34,HO_4,HO_5,HB⟩:=hcut
                cases kq with
                |zero=>exact absurd HA.out (by simp[spec_CleanPath.j5])
                |succ kj34=>
                 have H:=HA.out;clear HA;simp only[spec_CleanPath.j5]at H
                 by_cases c42:x7_23=true
                 ·subst c42;rw[if_pos rfl]at H
                  by_cases c43:(wrap64 (x6_3+1))=(t146.length:Int)
                  ·rw[if_pos c43]at H;have c43b0:((wrap64 (x6_3+1))==(t146.length:Int))=true:=beq_iff_eq.mpr c43;have c43b1:((wrap64 (x6_3+1))!=(t146.length:Int))=false:=bne_eq_false_iff_eq.mpr c43;clear c43
                   by_cases c44:x5_34.length<8796093022208
                   ·rw[if_pos c44]at H;have LMc44:=Aside0.mk c44;clear c44;obtain⟨y155,hy155⟩: ∃y_:List ByteArray,y_=(x5_34++ [(⟨#[]⟩:ByteArray)]):=⟨_,rfl⟩;replace H:(spec_CleanPath.l1 kj34 t146 y155 (wrap64 (x6_3+1)))=some r:=by first|(rw[hy155];with_reducible exact H)|(have H2_:=(Option.bind_some _ _).symm.trans H;rw[hy155];with_reducible exact H2_)|(have H2_:=(Option.bind_some _ _).symm.trans H;with_reducible exact H2_)|with_reducible exact H|(rw[hy155];exact H)|exact H
                    have Ny155:=Aside0.mk hy155;clear hy155;have H':=Aside0.mk H;clear H;go_wp2_with (first|((with_reducible refine gate_builtin (b:= .append) (xs:= #[.tmp 95,.tmp 96]) rfl ?_);(try(refine gate_guard (by rfl) ?_;dsimp only));at_builtin;refine Kd.R_append Kd.string (w0:=w) w.heap.size rfl (.tmp 95) (.tmp 96) 71 9 (.string ⟨#[]⟩) 16 rfl Tryz.underlying71 info9 rfl (by decide) (by omega) u5 x5_34 (⟨#[]⟩:ByteArray) [.string (⟨#[]⟩:ByteArray)] (fun k_=>some k_≠(.slice Ao25 t146.length co25:Value).ownBlock) (fun _=>False) rfl rfl ?aP (fun _ hk=>hk.elim) ?aF ?aO ?aB ?aS ?aL ?_;(case aP=>exact rfl);(case aB=>exact zz0);(case aF=>exact(fun k_ hk=>Kd.fresh' (Kd.R_lt zz28) k_ hk));(case aO=>exact zz37);(case aS=>exact(below_size zz0));(case aL=>have:=LMc44.out;omega);intro v156 w45 ho hb hg hat;rw[←Ny155.out]at ho;replace HO_4:=Aside0.mk (Kd.R_after (ok:=(fun _=>True)) zz47 hg hat);replace HB:=Aside0.mk (hb);have HO157:=Aside0.mk (ho);clear HO_5;clear ho hb hg hat))
                    go_roundg kj34
                    (case measure=>have:=HJ1.out;have:=HK2.out;have:=HK3.out;have:=HJ23.out;have:=HJ28.out;have:=HJ34.out;omega);case rel=>exact⟨(y155),(wrap64 (x6_3+1)),zz1,H',⟨zz86⟩,⟨zz77⟩,⟨by(with_reducible repeat(first|apply Kd.R_alloc|apply Kd.R_drewN|apply Kd.R_drew));first|exact HO157.out|exact Kd.R_mono HO157.out (fun _ hk_=>zz43)⟩,⟨zz0⟩⟩
                   ·rw[if_neg c44]at H;exact absurd H (by simp)
                  ·rw[if_neg c43]at H;have c43b0:((wrap64 (x6_3+1))==(t146.length:Int))=false:=beq_eq_false_iff_ne.mpr c43;have c43b1:((wrap64 (x6_3+1))!=(t146.length:Int))=true:=bne_iff_ne.mpr c43;have H':=Aside0.mk H;clear H;go_wp2
                   go_roundg kj34
                   (case measure=>have:=HJ1.out;have:=HK2.out;have:=HK3.out;have:=HJ23.out;have:=HJ28.out;have:=HJ34.out;omega);case rel=>exact⟨(x5_34),(wrap64 (x6_3+1)),zz1,H',⟨zz86⟩,⟨zz106⟩,⟨zz105⟩,⟨zz0⟩⟩
                 ·replace c42:=Bool.eq_false_iff.mpr c42;subst c42;rw[if_neg Bool.false_ne_true]at H
                  by_cases c46:0≤x6_3
                  ·rw[if_pos c46]at H;have c46b0:decide (0≤x6_3)=true:=decide_eq_true c46;clear c46
                   by_cases c47:x6_3<(t146.length:Int)
                   ·rw[if_pos c47]at H;have c47b0:decide (x6_3<(t146.length:Int))=true:=decide_eq_true c47;clear c47
                    by_cases c48:x5_34.length<8796093022208
                    ·rw[if_pos c48]at H;have LMc48:=Aside0.mk c48;clear c48;obtain⟨y159,hy159⟩: ∃y_:List ByteArray,y_=(x5_34++ [rdOf ByteArray.empty t146 x6_3]):=⟨_,rfl⟩;replace H:(spec_CleanPath.l1 kj34 t146 y159 (wrap64 (x6_3+1)))=some r:=by first|(rw[hy159];with_reducible exact H)|(have H2_:=(Option.bind_some _ _).symm.trans H;rw[hy159];with_reducible exact H2_)|(have H2_:=(Option.bind_some _ _).symm.trans H;with_reducible exact H2_)|with_reducible exact H|(rw[hy159];exact H)|exact H
                     have Ny159:=Aside0.mk hy159;clear hy159;have H':=Aside0.mk H;clear H;have p158:0≤(x6_3:Int):=of_decide_eq_true zz3;have q158:x6_3<(t146.length:Int):=of_decide_eq_true zz3;obtain⟨ad158,e158,hx158_0⟩:=Kd.at_string (Kd.R_reads' HO_4.out).2.2 x6_3 p158 q158;cases e158;replace p158:=eq_true p158;replace q158:=eq_true q158;go_wp2_with (first|((with_reducible refine gate_builtin (b:= .append) (xs:= #[.tmp 83,.tmp 88]) rfl ?_);(try(refine gate_guard (by rfl) ?_;dsimp only));at_builtin;refine Kd.R_append Kd.string (w0:=w) w.heap.size rfl (.tmp 83) (.tmp 88) 71 9 (.string ⟨#[]⟩) 16 rfl Tryz.underlying71 info9 rfl (by decide) (by omega) u5 x5_34 (rdOf ByteArray.empty t146 x6_3) [.string (rdOf ByteArray.empty t146 x6_3)] (fun k_=>some k_≠(.slice (some ad158) t146.length co25:Value).ownBlock) (fun _=>False) rfl rfl ?aP (fun _ hk=>hk.elim) ?aF ?aO ?aB ?aS ?aL ?_;(case aP=>exact rfl);(case aB=>exact zz0);(case aF=>exact(fun k_ hk=>Kd.fresh' (Kd.R_lt zz28) k_ hk));(case aO=>exact zz37);(case aS=>exact(below_size zz0));(case aL=>have:=LMc48.out;omega);intro v160 w49 ho hb hg hat;rw[←Ny159.out]at ho;replace HO_4:=Aside0.mk (Kd.R_after (ok:=(fun _=>True)) zz47 hg hat);replace HB:=Aside0.mk (hb);have HO161:=Aside0.mk (ho);clear HO_5;clear ho hb hg hat))
                     go_roundg kj34
                     (case measure=>have:=HJ1.out;have:=HK2.out;have:=HK3.out;have:=HJ23.out;have:=HJ28.out;have:=HJ34.out;omega);case rel=>exact⟨(y159),(wrap64 (x6_3+1)),zz1,H',⟨zz86⟩,⟨zz77⟩,⟨by(with_reducible repeat(first|apply Kd.R_alloc|apply Kd.R_drewN|apply Kd.R_drew));first|exact HO161.out|exact Kd.R_mono HO161.out (fun _ hk_=>zz43)⟩,⟨zz0⟩⟩
                    ·rw[if_neg c48]at H;exact absurd H (by simp)
                   ·rw[if_neg c47]at H;exact absurd H (by simp)
                  ·rw[if_neg c46]at H;exact absurd H (by simp)
          ·rw[if_neg c23]at H;have c23b0:decide (x6_3<(t146.length:Int))=false:=decide_eq_false c23;clear c23;have H':=Aside0.mk H;clear H;obtain⟨Ao50,co50,eo50⟩:=Kd.R_slice HO_4.out;subst eo50;go_wp2
           go_loopg [8,9] k3 (fun kq v8 v9 w'=> ∃(x8_4:ByteArray) (x9_4:Int),v8= .string x8_4∧v9= .int .i64 x9_4∧Aside0 (spec_CleanPath.l2 kq x5_3 x8_4 x9_4=some r)∧Aside0 (kq≤k3)∧Aside0 (Kd.R Kd.string 9 w' w.heap.size (fun _=>True) u5 x5_3)∧Aside0 (Below w.heap.size w w'))
           case atStart=>exact⟨((⟨#[]⟩:ByteArray)),(0),zz1,zz1,H',⟨Nat.le_refl _⟩,⟨by(with_reducible repeat(first|apply Kd.R_alloc|apply Kd.R_drewN|apply Kd.R_drew));exact Kd.R_mono HO_5.out (fun _ hk=>trivial)⟩,⟨zz0⟩⟩
           case round=>
            clear H';(try clear c1);(try clear p1);(try clear q1);(try clear hx1);(try clear c2);(try clear p2);(try clear c3);(try clear c3b0);(try clear c3b1);(try clear c4);(try clear c4b0);(try clear c4b1);(try clear q4);(try clear c5);(try clear c5b0);(try clear c5b1);(try clear p6);(try clear q6);(try clear hx6);(try clear qi6);(try clear c7);(try clear c8);(try clear c8b0);(try clear c8b1);(try clear c10);(try clear c11);(try clear c11b0);(try clear c12);(try clear c12b0);(try clear p13);(try clear q13);(try clear hx13);(try clear p14);(try clear q14);(try clear hx14);(try clear c15);(try clear c15b0);(try clear c15b1);(try clear p15);(try clear q15);(try clear hx15);(try clear p16);(try clear q16);(try clear hx16);(try clear c17);(try clear c17b0);(try clear c17b1);(try clear c19);(try clear c19b0);(try clear c19b1);(try clear c23);(try clear c23b0);(try clear c26);(try clear c26b0);(try clear c28);(try clear c28b0);(try clear c28b1);(try clear c30);(try clear c30b0);(try clear c31);(try clear c31b0);(try clear c33);(try clear c33b0);(try clear c33b1);(try clear c36);(try clear c38);(try clear c38b0);(try clear c38b1);(try clear c39);(try clear c39b0);(try clear c39b1);(try clear q41);(try clear c42);(try clear c43);(try clear c43b0);(try clear c43b1);(try clear c44);(try clear c46);(try clear c46b0);(try clear c47);(try clear c47b0);(try clear c48);(try clear hx149_0);(try clear hx150_0);(try clear hx151_0);(try clear hx158_0);(try clear p1);(try clear p13);(try clear p14);(try clear p149);(try clear p15);(try clear p150);(try clear p151);(try clear p158);(try clear p16);(try clear p2);(try clear p6);(try clear q1);(try clear q13);(try clear q14);(try clear q149);(try clear q15);(try clear q150);(try clear q151);(try clear q158);(try clear q16);(try clear q4);(try clear q41);(try clear q6);obtain⟨x8_4,x9_4,rfl,rfl,HA,HK4,HO_5,HB⟩:=hrel
            cases gk with
            |zero=>exact absurd HA.out (by simp[spec_CleanPath.l2])
            |succ k4=>
             have H:=HA.out;clear HA;simp only[spec_CleanPath.l2]at H
             by_cases c51:x9_4<(x5_3.length:Int)
             ·rw[if_pos c51]at H;have c51b0:decide (x9_4<(x5_3.length:Int))=true:=decide_eq_true c51;clear c51
              by_cases c52:x8_4.size+1≤9223372036854775807
              ·rw[if_pos c52]at H;have c52b0:=eq_true c52;have c52b1:decide (x8_4.size+1≤9223372036854775807)=true:=decide_eq_true c52;try have c52b2:(9223372036854775807<x8_4.size+1)=False:=eq_false (Nat.not_lt.2 c52)
               by_cases c53:0≤x9_4
               ·rw[if_pos c53]at H;have c53b0:decide (0≤x9_4)=true:=decide_eq_true c53;clear c53
                by_cases c54:(x8_4++(⟨#[47]⟩:ByteArray)).size+(rdOf ByteArray.empty x5_3 x9_4).size≤9223372036854775807
                ·rw[if_pos c54]at H;have c54b0:=eq_true c54;have c54b1:decide ((x8_4++(⟨#[47]⟩:ByteArray)).size+(rdOf ByteArray.empty x5_3 x9_4).size≤9223372036854775807)=true:=decide_eq_true c54;(try have c54b2:(9223372036854775807<(x8_4++(⟨#[47]⟩:ByteArray)).size+(rdOf ByteArray.empty x5_3 x9_4).size)=False:=eq_false (Nat.not_lt.2 c54));(try have c54z:=c54b2;simp only[ByteArray.size_append,show(⟨#[47]⟩:ByteArray).size=1 from rfl]at c54z;have c54b3:=c54z);have H':=Aside0.mk H;clear H;obtain⟨Ao55,co55,eo55⟩:=Kd.R_slice HO_5.out;subst eo55;have p162:0≤(x9_4:Int):=of_decide_eq_true zz3;have q162:x9_4<(x5_3.length:Int):=of_decide_eq_true zz3;obtain⟨ad162,e162,hx162_0⟩:=Kd.at_string (Kd.R_reads' HO_5.out).2.2 x9_4 p162 q162;cases e162;replace p162:=eq_true p162;replace q162:=eq_true q162;go_wp2
                 go_roundg k4
                 (case measure=>have:=HJ1.out;have:=HK2.out;have:=HK3.out;have:=HK4.out;omega);case rel=>exact⟨((x8_4++(⟨#[47]⟩:ByteArray))++(rdOf ByteArray.empty x5_3 x9_4)),(wrap64 (x9_4+1)),zz1,zz1,H',⟨by have:=HJ1.out;have:=HK2.out;have:=HK3.out;have:=HK4.out;omega⟩,⟨zz105⟩,⟨zz0⟩⟩
                ·rw[if_neg c54]at H;exact absurd H (by simp)
               ·rw[if_neg c53]at H;exact absurd H (by simp)
              ·rw[if_neg c52]at H;exact absurd H (by simp)
             ·rw[if_neg c51]at H;have c51b0:decide (x9_4<(x5_3.length:Int))=false:=decide_eq_false c51;clear c51
              by_cases c56:x8_4.toList=([]:List UInt8)
              ·rw[if_pos c56]at H;have c56b0:(x8_4.toList==([]:List UInt8))=true:=beq_iff_eq.mpr c56;have c56e:x8_4.toList.isEmpty=true:=by have hz_:=beq_iff_eq.1 c56b0;rw[hz_];rfl
               (try rw[c56e]);have c56b1:(x8_4.toList !=([]:List UInt8))=false:=bne_eq_false_iff_eq.mpr c56;clear c56;obtain rfl:=Option.some.inj H;obtain⟨Ao57,co57,eo57⟩:=Kd.R_slice HO_5.out;subst eo57;go_wp2
               go_ret;exact⟨zz2,zz0⟩
              ·rw[if_neg c56]at H;have c56b0:(x8_4.toList==([]:List UInt8))=false:=beq_eq_false_iff_ne.mpr c56;have c56e:x8_4.toList.isEmpty=false:=by cases hz_:x8_4.toList with|nil=>(rw[hz_]at c56b0;exact absurd c56b0 (by decide))|cons _ _=>rfl
               (try rw[c56e]);have c56b1:(x8_4.toList !=([]:List UInt8))=true:=bne_iff_ne.mpr c56;obtain rfl:=Option.some.inj H;obtain⟨Ao58,co58,eo58⟩:=Kd.R_slice HO_5.out;subst eo58;go_wp2
               go_ret;exact⟨zz2,zz0⟩
       ·rw[if_neg c19]at H;exact absurd H (by simp)
end Go.Proofs.YtgkipkifkobjnaaGreatDoor.GFnExactRecOk
