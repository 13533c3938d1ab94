-- Printed by gen.py and its programs for this claim.
import Derived.Test.YteojcbbifacpnaaGreatDoorGFnExactClosestx0
import Derived.Test.YteojcbbifacpnaaGreatDoorGFnExactClosestx12
import Derived.Test.YteojcbbifacpnaaGreatDoorGFnExactClosestx15
import Derived.Test.YteojcbbifacpnaaGreatDoorZFnExactClosest
namespace Go.Proofs.YteojcbbifacpnaaGreatDoor.GFnExactClosest
open Go.RowKit Go.Proofs.YteojcbbifacpnaaGreatDoorW.PrintWords Go.Proofs.YteojcbbifacpnaaGreatDoorW.PrintLast Go.Proofs.YteojcbbifacpnaaGreatDoorW.PrintMore Go.Proofs.YteojcbbifacpnaaGreatDoorW.Zs
set_option maxHeartbeats 40000000
set_option maxRecDepth 100000
attribute [local go_sem] max2_int min2_int max_two min_two max_three min_three max_four min_four
set_option linter.unusedVariables false
set_option linter.unusedSimpArgs false
mutual
def spec_Closest.j0:Nat→List (S26)→ByteArray→Int→ByteArray→Int→Bool→Option (Int)
 |0,_,_,_,_,_,_=>none
 |k+1,x0,x1,x2,x3,x4,x20=>if x20=true then(some (-1))else(spec_Closest.l0 k x0 x1 x2 x3 x4 (-1) 0)
def spec_Closest.l0:Nat→List (S26)→ByteArray→Int→ByteArray→Int→Int→Int→Option (Int)
 |0,_,_,_,_,_,_,_=>none
 |k+1,x0,x1,x2,x3,x4,x11,x12=>if x12<(x0.length:Int)then(if 0≤x12 then(if((rd_T26 x0 x12).f0).toList=x1.toList then(if((rd_T26 x0 x12).f2)=x2 then(spec_Closest.j2 k x0 x1 x2 x3 x4 x11 x12 (((rd_T26 x0 x12).f3).toList !=x3.toList))else(spec_Closest.j2 k x0 x1 x2 x3 x4 x11 x12 true))else(spec_Closest.j2 k x0 x1 x2 x3 x4 x11 x12 true))else(none))else(some x11)
def spec_Closest.j2:Nat→List (S26)→ByteArray→Int→ByteArray→Int→Int→Int→Bool→Option (Int)
 |0,_,_,_,_,_,_,_,_=>none
 |k+1,x0,x1,x2,x3,x4,x11,x12,x51=>if x51=true then(spec_Closest.l0 k x0 x1 x2 x3 x4 x11 (wrap64 (x12+1)))else(if x11<0 then(spec_Closest.l0 k x0 x1 x2 x3 x4 x12 (wrap64 (x12+1)))else(if 0≤x12 then(if x12<(x0.length:Int)then((spec_l9far.f ((rd_T26 x0 x12).f1) x4).bind fun t279=>(if 0≤x11 then(if x11<(x0.length:Int)then((spec_l9far.f ((rd_T26 x0 x11).f1) x4).bind fun t281=>(if t279<t281 then(spec_Closest.l0 k x0 x1 x2 x3 x4 x12 (wrap64 (x12+1)))else(if((rd_T26 x0 x12).f1)=((rd_T26 x0 x11).f1)then(spec_Closest.l0 k x0 x1 x2 x3 x4 x12 (wrap64 (x12+1)))else(spec_Closest.l0 k x0 x1 x2 x3 x4 x11 (wrap64 (x12+1))))))else(none))else(none)))else(none))else(none)))
end
def spec_Closest.f (k:Nat) (l0:List (S26)) (a1:ByteArray) (a2:Int) (a3:ByteArray) (a4:Int):Option (Int):=(spec_IndexOk.f k l0).bind fun t273=>(if t273=true then((spec_l2time.f a4).bind fun t274=>(spec_Closest.j0 k l0 a1 a2 a3 a4 (!t274)))else(spec_Closest.j0 k l0 a1 a2 a3 a4 true))
def spec_Closest.T8:Bool×List (List Nat×List Nat):=(true,[([],[]),([0],[0]),([1],[1]),([2],[2]),([2],[2]),([3,4,2],[2,3,4]),([5,2],[2,5]),([6,2],[2,6]),([2],[2]),([7,8,2,2],[2,7,8]),([2],[2]),([2],[2]),([10,11,2],[2,10,11]),([12,2],[2,12]),([13,2],[2,13]),([2],[2]),([14,15,9,2],[2,14,15]),([9,16,2],[2,9,16]),([2,17],[2,17]),([18,16],[18]),([19],[19]),([19],[19]),([20,21,19],[19,20,21]),([22,19],[19,22]),([23,19],[19,23]),([19],[19]),([19],[19]),([25,26,19],[19,25,26]),([27,19],[19,27]),([28,19],[19,28]),([24,29,19],[19,24,29]),([19,30],[19,30])])
def spec_Closest.B8:List Nat:= [0,1,3,7,7,31,63,127,7,511,7,7,3079,7175,15367,7,65535,131071,262143,524287,1048575,1048575,4194303,8388607,16777215,1048575,1048575,101711871,235929599,504365055,1073741823,2147483647]
theorem spec_Closest.tab8:rtab .any (opsOf Tryz.f23 8)=spec_Closest.T8:=by kernel_rfl
theorem spec_Closest.bits8:waitsOk spec_Closest.T8.2 spec_Closest.B8=true:=by kernel_rfl
theorem spec_Closest.calls (k:Nat) (A0:Option Addr) (c0:Nat) (l0:List (S26)) (a1:ByteArray) (a2:Int) (a3:ByteArray) (a4 r:Int) (w:World) (hr0:Kd.C k26 w A0 l0.length l0) (hc0:l0.length≤c0) (h:spec_Closest.f k l0 a1 a2 a3 a4=some r):
  Calls Tryz.prog 23 #[.slice A0 l0.length c0,.string a1,.int .i64 a2,.string a3,.int .i64 a4] w fun e w'=>e= .returned (.int .i64 r)∧Below w.heap.size w w':=by
 have HR0:=Aside0.mk hr0;have HC0:=Aside0.mk hc0;clear hr0 hc0;have HB:=Aside0.mk (Below.refl w.heap.size w);have H:((spec_IndexOk.f k l0).bind fun t273=>(if t273=true then((spec_l2time.f a4).bind fun t274=>(spec_Closest.j0 k l0 a1 a2 a3 a4 (!t274)))else(spec_Closest.j0 k l0 a1 a2 a3 a4 true)))=some r:=h;clear h;have HC6:=Aside0.mk H;clear H;go_enter Tryz.func23,Tryz.ntmps23
 go_upto_region 1 with(fail)
 go_cut [20] (fun v20 wc=> ∃(kq:Nat) (x20_5:Bool),v20= .bool x20_5∧Aside0 (spec_Closest.j0 kq l0 a1 a2 a3 a4 x20_5=some r)∧Aside0 (kq≤k)∧Aside0 (Below w.heap.size w wc))
 case first=>
  have H:=HC6.out;clear HC6;replace H:=Option.bind_eq_some_iff.mp H;obtain⟨t273,A70,H⟩:=H;(try dsimp only at H);have A7:=Aside0.mk A70;clear A70;have HC8:=Aside0.mk H;clear H
  repeat' (first|(go_big_may;(first|((with_reducible refine gate_callee (f:=17) rfl ?_);refine goesQ_ 14 Tryz.func17 #[.slice A0 l0.length c0] ?_;(with_reducible refine(spec_IndexOk.calls k _ _ l0 t273 _ ?side1 ?side2 A7.out).mono ?_);(case side1=>repeat(first|exact(Kd.C_below HR0.out HB.out)|(with_reducible refine Kd.C_alloc ?_ _)|(with_reducible refine Kd.C_drewN ?_ _)|(with_reducible refine Kd.C_drew ?_)));(case side2=>exact HC0.out);rintro e w9 ⟨rfl,hb⟩;refine⟨_,rfl,?_⟩;replace HB:=Aside0.mk (below_step zz0 hb);(try clear hb))))|go_values|go_skip|go_big_skip|go_big_want|((first|(with_reducible refine gate_nog rfl ?_)|(fail_if_success with_reducible refine gate_any ?_));go_step)|go_upon|simp only[Bool.not_true,Bool.not_false,Bool.true_and,Bool.false_and,Bool.true_or,Bool.false_or]|dsimp only)
  (try simp only[Act.put,List.setIfInBounds_toArray,List.set_cons_zero,List.set_cons_succ]);have H:=HC8.out;clear HC8
  by_cases c10:t273=true
  ·subst c10;rw[if_pos rfl]at H;replace H:=Option.bind_eq_some_iff.mp H;obtain⟨t274,A110,H⟩:=H;(try dsimp only at H);have A11:=Aside0.mk A110;clear A110;have H':=Aside0.mk H;clear H;go_wp2_with (first|(go_at_call 32;(with_reducible refine(spec_l2time.calls a4 t274 _ A11.out).mono ?_);rintro e w' ⟨rfl,⟨nd,rfl⟩⟩))
   go_meet
   case rel=>exact⟨_,(!t274),zz2,H',⟨zz22⟩,⟨zz0⟩⟩
  ·replace c10:=Bool.eq_false_iff.mpr c10;subst c10;rw[if_neg Bool.false_ne_true]at H;have H':=Aside0.mk H;clear H;go_wp2
   go_meet
   case rel=>exact⟨_,(true),zz2,H',⟨zz22⟩,⟨zz0⟩⟩
 case rest=>
  clear HC6;(try clear c1);(try clear c2);(try clear p2);(try clear c10);obtain⟨kq,x20_5,rfl,HA,HJ5,HB⟩:=hcut
  cases kq with
  |zero=>exact absurd HA.out (by simp[spec_Closest.j0])
  |succ kj5=>
   have H:=HA.out;clear HA;simp only[spec_Closest.j0]at H
   by_cases c12:x20_5=true
   ·subst c12;rw[if_pos rfl]at H;obtain rfl:=Option.some.inj H;go_wp2
    go_ret;exact⟨zz1,zz0⟩
   ·replace c12:=Bool.eq_false_iff.mpr c12;subst c12;rw[if_neg Bool.false_ne_true]at H;have H':=Aside0.mk H;clear H;go_wp2
    go_loopg [11,12] kj5 (fun kq v11 v12 w'=> ∃(x11_2 x12_2:Int),v11= .int .i64 x11_2∧v12= .int .i64 x12_2∧Aside0 (spec_Closest.l0 kq l0 a1 a2 a3 a4 x11_2 x12_2=some r)∧Aside0 (kq≤kj5)∧Aside0 (Below w.heap.size w w'))
    case atStart=>exact⟨((-1)),(0),zz2,zz2,H',⟨Nat.le_refl _⟩,⟨zz0⟩⟩
    case round=>
     clear H';(try clear c1);(try clear c2);(try clear p2);(try clear c10);(try clear c12);(try clear p2);obtain⟨x11_2,x12_2,rfl,rfl,HA,HK2,HB⟩:=hrel
     cases gk with
     |zero=>exact absurd HA.out (by simp[spec_Closest.l0])
     |succ k2=>
      have H:=HA.out;clear HA;simp only[spec_Closest.l0]at H
      by_cases c13:x12_2<(l0.length:Int)
      ·rw[if_pos c13]at H;have c13b0:decide (x12_2<(l0.length:Int))=true:=decide_eq_true c13;clear c13;have HC14:=Aside0.mk H;clear H;go_upto_region 7 with(fail)
       go_cut [51] (fun v51 wc=> ∃(kq:Nat) (x51_13:Bool),v51= .bool x51_13∧Aside0 (spec_Closest.j2 kq l0 a1 a2 a3 a4 x11_2 x12_2 x51_13=some r)∧Aside0 (kq≤k2)∧Aside0 (Below w.heap.size w wc))
       case first=>
        have H:=HC14.out;clear HC14
        by_cases c15:0≤x12_2
        ·rw[if_pos c15]at H;have c15b0:decide (0≤x12_2)=true:=decide_eq_true c15;clear c15;(first|rw[c15b0]|(simp only[i64_w,i32_w];rw[c15b0])|skip);have HC16:=Aside0.mk H;clear H;have p275:0≤(x12_2:Int):=of_decide_eq_true zz3;have q275:x12_2<(l0.length:Int):=of_decide_eq_true zz3;obtain⟨ad275,e275,W275⟩:=at_T26 HR0.out x12_2 p275 q275;cases e275;obtain⟨hx275_0,hx275_1,hx275_2,hx275_3,hx275_4,hx275_5,hx275_6,hx275_7,hx275_8,hx275_9⟩:=El26.up HB.out W275;replace p275:=eq_true p275;replace q275:=eq_true q275
         repeat' (first|(go_big_may;(fail))|go_values|go_skip|go_big_skip|go_big_want|((first|(with_reducible refine gate_nog rfl ?_)|(fail_if_success with_reducible refine gate_any ?_));go_step)|go_upon|simp only[Bool.not_true,Bool.not_false,Bool.true_and,Bool.false_and,Bool.true_or,Bool.false_or]|dsimp only)
         have H:=HC16.out;clear HC16
         by_cases c17:((rd_T26 l0 x12_2).f0).toList=a1.toList
         ·rw[if_pos c17]at H;have c17b0:(((rd_T26 l0 x12_2).f0).toList==a1.toList)=true:=beq_iff_eq.mpr c17;have c17b1:(((rd_T26 l0 x12_2).f0).toList !=a1.toList)=false:=bne_eq_false_iff_eq.mpr c17;clear c17;(first|rw[c17b0]|(simp only[i64_w,i32_w];rw[c17b0])|rw[c17b1]|(rw[c17b2];simp only[Bool.not_true,Bool.not_false])|skip);have HC18:=Aside0.mk H;clear H;have p276:0≤(x12_2:Int):=of_decide_eq_true zz3;have q276:x12_2<(l0.length:Int):=of_decide_eq_true zz3;obtain⟨ad276,e276,W276⟩:=at_T26 HR0.out x12_2 p276 q276;obtain rfl:ad275=ad276:=(by injection e276);obtain⟨hx276_0,hx276_1,hx276_2,hx276_3,hx276_4,hx276_5,hx276_6,hx276_7,hx276_8,hx276_9⟩:=El26.up HB.out W276;replace p276:=eq_true p276;replace q276:=eq_true q276
          repeat' (first|(go_big_may;(fail))|go_values|go_skip|go_big_skip|go_big_want|((first|(with_reducible refine gate_nog rfl ?_)|(fail_if_success with_reducible refine gate_any ?_));go_step)|go_upon|simp only[Bool.not_true,Bool.not_false,Bool.true_and,Bool.false_and,Bool.true_or,Bool.false_or]|dsimp only)
          have H:=HC18.out;clear HC18
          by_cases c19:((rd_T26 l0 x12_2).f2)=a2
          ·rw[if_pos c19]at H;have c19b0:(((rd_T26 l0 x12_2).f2)==a2)=true:=beq_iff_eq.mpr c19;have c19b1:(((rd_T26 l0 x12_2).f2)!=a2)=false:=bne_eq_false_iff_eq.mpr c19;clear c19;(first|rw[c19b0]|(simp only[i64_w,i32_w];rw[c19b0])|rw[c19b1]|(rw[c19b2];simp only[Bool.not_true,Bool.not_false])|skip);have H':=Aside0.mk H;clear H;have p277:0≤(x12_2:Int):=of_decide_eq_true zz3;have q277:x12_2<(l0.length:Int):=of_decide_eq_true zz3;obtain⟨ad277,e277,W277⟩:=at_T26 HR0.out x12_2 p277 q277;obtain rfl:ad275=ad277:=(by injection e277);obtain⟨hx277_0,hx277_1,hx277_2,hx277_3,hx277_4,hx277_5,hx277_6,hx277_7,hx277_8,hx277_9⟩:=El26.up HB.out W277;replace p277:=eq_true p277;replace q277:=eq_true q277;go_wp2
           go_meet
           case rel=>exact⟨_,((((rd_T26 l0 x12_2).f3).toList !=a3.toList)),zz2,H',⟨zz96⟩,⟨zz0⟩⟩
          ·rw[if_neg c19]at H;have c19b0:(((rd_T26 l0 x12_2).f2)==a2)=false:=beq_eq_false_iff_ne.mpr c19;have c19b1:(((rd_T26 l0 x12_2).f2)!=a2)=true:=bne_iff_ne.mpr c19;(first|rw[c19b0]|(simp only[i64_w,i32_w];rw[c19b0])|rw[c19b1]|(rw[c19b2];simp only[Bool.not_true,Bool.not_false])|skip);have H':=Aside0.mk H;clear H;go_wp2
           go_meet
           case rel=>exact⟨_,(true),zz2,H',⟨zz96⟩,⟨zz0⟩⟩
         ·rw[if_neg c17]at H;have c17b0:(((rd_T26 l0 x12_2).f0).toList==a1.toList)=false:=beq_eq_false_iff_ne.mpr c17;have c17b1:(((rd_T26 l0 x12_2).f0).toList !=a1.toList)=true:=bne_iff_ne.mpr c17;(first|rw[c17b0]|(simp only[i64_w,i32_w];rw[c17b0])|rw[c17b1]|(rw[c17b2];simp only[Bool.not_true,Bool.not_false])|skip);have H':=Aside0.mk H;clear H;go_wp2
          go_meet
          case rel=>exact⟨_,(true),zz2,H',⟨zz96⟩,⟨zz0⟩⟩
        ·rw[if_neg c15]at H;exact absurd H (by simp)
       case rest=>
        clear HC14;(try clear c1);(try clear c2);(try clear p2);(try clear q2);(try clear hx2);(try clear c10);(try clear c12);(try clear c13);(try clear c13b0);(try clear c15);(try clear c15b0);(try clear c17);(try clear c17b0);(try clear c17b1);(try clear c19);(try clear c19b0);(try clear c19b1);(try clear hx275_0);(try clear hx275_1);(try clear hx275_2);(try clear hx275_3);(try clear hx275_4);(try clear hx275_5);(try clear hx275_6);(try clear hx275_7);(try clear hx275_8);(try clear hx275_9);(try clear hx276_0);(try clear hx276_1);(try clear hx276_2);(try clear hx276_3);(try clear hx276_4);(try clear hx276_5);(try clear hx276_6);(try clear hx276_7);(try clear hx276_8);(try clear hx276_9);(try clear hx277_0);(try clear hx277_1);(try clear hx277_2);(try clear hx277_3);(try clear hx277_4);(try clear hx277_5);(try clear hx277_6);(try clear hx277_7);(try clear hx277_8);(try clear hx277_9);(try clear p2);(try clear p275);(try clear p276);(try clear p277);(try clear q275);(try clear q276);(try clear q277);obtain⟨kq,x51_13,rfl,HA,HJ13,HB⟩:=hcut
        cases kq with
        |zero=>exact absurd HA.out (by simp[spec_Closest.j2])
        |succ kj13=>
         have H:=HA.out;clear HA;simp only[spec_Closest.j2]at H
         by_cases c20:x51_13=true
         ·subst c20;rw[if_pos rfl]at H;have H':=Aside0.mk H;clear H;go_wp2
          go_roundg kj13
          (case measure=>have:=HJ5.out;have:=HK2.out;have:=HJ13.out;omega);case rel=>exact⟨(x11_2),(wrap64 (x12_2+1)),zz2,zz2,H',⟨zz78⟩,⟨zz0⟩⟩
         ·replace c20:=Bool.eq_false_iff.mpr c20;subst c20;rw[if_neg Bool.false_ne_true]at H
          by_cases c21:x11_2<0
          ·rw[if_pos c21]at H;have c21b0:decide (x11_2<0)=true:=decide_eq_true c21;clear c21;have H':=Aside0.mk H;clear H;(try go_wp2);replace HB:=Aside0.mk (below_drew1 HB.out);refine st_ (n:=32) (S:=fun w'=>True) (ds:= []) trivial (fun hHeld=>?_);refine with_tabW spec_Closest.tab8 spec_Closest.bits8 (fun HT_ HW_=>?_);generalize wc.drew=w22 at HB hHeld ⊢;refine pz 0 52 ?_;refine pz 1 53 ?_;refine pz 2 54 ?_;refine pu 3 55 ?_;refine pu 4 56 ?_;refine pu 5 57 ?_;refine pu 6 58 ?_;refine pu 7 59 ?_;refine pu 8 60 ?_;refine pu 9 61 ?_;refine pu 10 62 ?_;refine pu 11 63 ?_;refine pu 12 64 ?_;refine pu 13 65 ?_;refine pu 14 66 ?_;refine pu 15 67 ?_;refine pu 16 68 ?_;refine pu 17 69 ?_;refine pz 18 70 ?_;refine pz 19 71 ?_;refine pu 20 72 ?_;refine pu 21 73 ?_;refine pu 22 74 ?_;refine pu 23 75 ?_;refine pu 24 76 ?_;refine pu 25 77 ?_;refine pu 26 78 ?_;refine pu 27 79 ?_;refine pu 28 80 ?_;refine pu 29 81 ?_;refine pu 30 82 ?_;refine pz 31 83 ?_;refine done_ (done_of HT_.out (by kernel_rfl)) ?_;(try go_wp2);go_roundg kj13
           (case measure=>have:=HJ5.out;have:=HK2.out;have:=HJ13.out;omega);case rel=>exact⟨(x12_2),(wrap64 (x12_2+1)),zz2,zz2,H',⟨zz78⟩,⟨zz0⟩⟩
          ·rw[if_neg c21]at H;have c21b0:decide (x11_2<0)=false:=decide_eq_false c21;clear c21
           by_cases c23:0≤x12_2
           ·rw[if_pos c23]at H;have c23b0:decide (0≤x12_2)=true:=decide_eq_true c23;clear c23
            by_cases c24:x12_2<(l0.length:Int)
            ·rw[if_pos c24]at H;have c24b0:decide (x12_2<(l0.length:Int))=true:=decide_eq_true c24;clear c24;replace H:=Option.bind_eq_some_iff.mp H;obtain⟨t279,A250,H⟩:=H;(try dsimp only at H);have A25:=Aside0.mk A250;clear A250
             by_cases c26:0≤x11_2
             ·rw[if_pos c26]at H;have c26b0:decide (0≤x11_2)=true:=decide_eq_true c26;clear c26
              by_cases c27:x11_2<(l0.length:Int)
              ·rw[if_pos c27]at H;have c27b0:decide (x11_2<(l0.length:Int))=true:=decide_eq_true c27;clear c27;replace H:=Option.bind_eq_some_iff.mp H;obtain⟨t281,A280,H⟩:=H;(try dsimp only at H);have A28:=Aside0.mk A280;clear A280
               by_cases c29:t279<t281
               ·rw[if_pos c29]at H;have c29b0:decide (t279<t281)=true:=decide_eq_true c29;clear c29;have H':=Aside0.mk H;clear H;(try go_wp2);replace HB:=Aside0.mk (below_drew1 HB.out);have p278:0≤(x12_2:Int):=of_decide_eq_true zz3;have q278:x12_2<(l0.length:Int):=of_decide_eq_true zz3;obtain⟨ad278,e278,W278⟩:=at_T26 HR0.out x12_2 p278 q278;cases e278;obtain⟨hx278_0,hx278_1,hx278_2,hx278_3,hx278_4,hx278_5,hx278_6,hx278_7,hx278_8,hx278_9⟩:=El26.up HB.out W278;replace p278:=eq_true p278;replace q278:=eq_true q278;have p280:0≤(x11_2:Int):=of_decide_eq_true zz3;have q280:x11_2<(l0.length:Int):=of_decide_eq_true zz3;obtain⟨ad280,e280,W280⟩:=at_T26 HR0.out x11_2 p280 q280;obtain rfl:ad278=ad280:=(by injection e280);obtain⟨hx280_0,hx280_1,hx280_2,hx280_3,hx280_4,hx280_5,hx280_6,hx280_7,hx280_8,hx280_9⟩:=El26.up HB.out W280;replace p280:=eq_true p280;replace q280:=eq_true q280;refine st_ (n:=32) (S:=fun w'=>El26 w' (ad278.add ((x12_2).toNat*10)) (rd_T26 l0 x12_2)∧El26 w' (ad278.add ((x11_2).toNat*10)) (rd_T26 l0 x11_2)) (ds:= []) ⟨(have q_:=El26.up HB.out W278;q_),(have q_:=El26.up HB.out W280;q_)⟩ (fun hHeld=>?_);refine with_tabW spec_Closest.tab8 spec_Closest.bits8 (fun HT_ HW_=>?_);generalize wc.drew=w30 at HB hx278_0 hx278_1 hx278_2 hx278_3 hx278_4 hx278_5 hx278_6 hx278_7 hx278_8 hx278_9 hx280_0 hx280_1 hx280_2 hx280_3 hx280_4 hx280_5 hx280_6 hx280_7 hx280_8 hx280_9 hHeld ⊢;refine pz 0 52 ?_;refine pz 1 53 ?_;refine pz 2 54 ?_;refine pz 3 55 ?_;refine pz 4 56 ?_;refine pz 5 57 ?_;refine pz 6 58 ?_;refine pz 8 60 ?_;refine pz 10 62 ?_;refine pz 11 63 ?_;refine pz 12 64 ?_;refine pz 13 65 ?_;refine pz 15 67 ?_;refine tk0_ 7 59 hHeld ?_;refine tk0_ 14 66 hHeld ?_;refine ozZ 9 61 Tryz.func45 #[.int .i64 ((rd_T26 l0 x12_2).f1),.int .i64 a4] (spec_l9far.calls ((rd_T26 l0 x12_2).f1) a4 t279 _ A25.out) (fun K hK=>?_);rintro w' ⟨nd,rfl⟩;refine hK.out _ _ ⟨(have q_:=El26.up HB.out W278;q_),(have q_:=El26.up HB.out W280;q_)⟩ (fun hHeld=>?_);clear hK K;refine nz ?_;refine ozZ 16 68 Tryz.func45 #[.int .i64 ((rd_T26 l0 x11_2).f1),.int .i64 a4] (spec_l9far.calls ((rd_T26 l0 x11_2).f1) a4 t281 _ A28.out) (fun K hK=>?_);rintro w' ⟨nd,rfl⟩;refine hK.out _ _ ⟨(have q_:=El26.up HB.out W278;q_),(have q_:=El26.up HB.out W280;q_)⟩ (fun hHeld=>?_);clear hK K;refine nz ?_;refine pz 17 69 ?_;refine pz 18 70 ?_;refine pz 19 71 ?_;refine pu 20 72 ?_;refine pu 21 73 ?_;refine pu 22 74 ?_;refine pu 23 75 ?_;refine pu 24 76 ?_;refine pu 25 77 ?_;refine pu 26 78 ?_;refine pu 27 79 ?_;refine pu 28 80 ?_;refine pu 29 81 ?_;refine pu 30 82 ?_;refine pz 31 83 ?_;refine done_ (done_of HT_.out (by kernel_rfl)) ?_;(try go_wp2);go_roundg kj13
                (case measure=>have:=HJ5.out;have:=HK2.out;have:=HJ13.out;omega);case rel=>exact⟨(x12_2),(wrap64 (x12_2+1)),zz2,zz2,H',⟨zz78⟩,⟨zz0⟩⟩
               ·rw[if_neg c29]at H;have c29b0:decide (t279<t281)=false:=decide_eq_false c29;clear c29;have HC31:=Aside0.mk H;clear H;(try go_wp2);replace HB:=Aside0.mk (below_drew1 HB.out);have p278:0≤(x12_2:Int):=of_decide_eq_true zz3;have q278:x12_2<(l0.length:Int):=of_decide_eq_true zz3;obtain⟨ad278,e278,W278⟩:=at_T26 HR0.out x12_2 p278 q278;cases e278;obtain⟨hx278_0,hx278_1,hx278_2,hx278_3,hx278_4,hx278_5,hx278_6,hx278_7,hx278_8,hx278_9⟩:=El26.up HB.out W278;replace p278:=eq_true p278;replace q278:=eq_true q278;have p280:0≤(x11_2:Int):=of_decide_eq_true zz3;have q280:x11_2<(l0.length:Int):=of_decide_eq_true zz3;obtain⟨ad280,e280,W280⟩:=at_T26 HR0.out x11_2 p280 q280;obtain rfl:ad278=ad280:=(by injection e280);obtain⟨hx280_0,hx280_1,hx280_2,hx280_3,hx280_4,hx280_5,hx280_6,hx280_7,hx280_8,hx280_9⟩:=El26.up HB.out W280;replace p280:=eq_true p280;replace q280:=eq_true q280;have p282:0≤(x12_2:Int):=of_decide_eq_true zz3;have q282:x12_2<(l0.length:Int):=of_decide_eq_true zz3;obtain⟨ad282,e282,W282⟩:=at_T26 HR0.out x12_2 p282 q282;obtain rfl:ad278=ad282:=(by injection e282);obtain⟨hx282_0,hx282_1,hx282_2,hx282_3,hx282_4,hx282_5,hx282_6,hx282_7,hx282_8,hx282_9⟩:=El26.up HB.out W282;replace p282:=eq_true p282;replace q282:=eq_true q282;have p283:0≤(x11_2:Int):=of_decide_eq_true zz3;have q283:x11_2<(l0.length:Int):=of_decide_eq_true zz3;obtain⟨ad283,e283,W283⟩:=at_T26 HR0.out x11_2 p283 q283;obtain rfl:ad278=ad283:=(by injection e283);obtain⟨hx283_0,hx283_1,hx283_2,hx283_3,hx283_4,hx283_5,hx283_6,hx283_7,hx283_8,hx283_9⟩:=El26.up HB.out W283;replace p283:=eq_true p283;replace q283:=eq_true q283;refine st_ (n:=32) (S:=fun w'=>El26 w' (ad278.add ((x12_2).toNat*10)) (rd_T26 l0 x12_2)∧El26 w' (ad278.add ((x11_2).toNat*10)) (rd_T26 l0 x11_2)∧El26 w' (ad278.add ((x12_2).toNat*10)) (rd_T26 l0 x12_2)∧El26 w' (ad278.add ((x11_2).toNat*10)) (rd_T26 l0 x11_2)) (ds:= []) ⟨(have q_:=El26.up HB.out W278;q_),(have q_:=El26.up HB.out W280;q_),(have q_:=El26.up HB.out W282;q_),(have q_:=El26.up HB.out W283;q_)⟩ (fun hHeld=>?_);refine with_tabW spec_Closest.tab8 spec_Closest.bits8 (fun HT_ HW_=>?_);generalize wc.drew=w32 at HB hx278_0 hx278_1 hx278_2 hx278_3 hx278_4 hx278_5 hx278_6 hx278_7 hx278_8 hx278_9 hx280_0 hx280_1 hx280_2 hx280_3 hx280_4 hx280_5 hx280_6 hx280_7 hx280_8 hx280_9 hx282_0 hx282_1 hx282_2 hx282_3 hx282_4 hx282_5 hx282_6 hx282_7 hx282_8 hx282_9 hx283_0 hx283_1 hx283_2 hx283_3 hx283_4 hx283_5 hx283_6 hx283_7 hx283_8 hx283_9 hHeld ⊢;refine pz 0 52 ?_;refine pz 1 53 ?_;refine pz 2 54 ?_;refine pz 3 55 ?_;refine pz 4 56 ?_;refine pz 5 57 ?_;refine pz 6 58 ?_;refine pz 8 60 ?_;refine pz 10 62 ?_;refine pz 11 63 ?_;refine pz 12 64 ?_;refine pz 13 65 ?_;refine pz 15 67 ?_;refine tk4_ 7 59 hHeld ?_;refine tk4_ 14 66 hHeld ?_;refine ozZ 9 61 Tryz.func45 #[.int .i64 ((rd_T26 l0 x12_2).f1),.int .i64 a4] (spec_l9far.calls ((rd_T26 l0 x12_2).f1) a4 t279 _ A25.out) (fun K hK=>?_);rintro w' ⟨nd,rfl⟩;refine hK.out _ _ ⟨(have q_:=El26.up HB.out W278;q_),(have q_:=El26.up HB.out W280;q_),(have q_:=El26.up HB.out W282;q_),(have q_:=El26.up HB.out W283;q_)⟩ (fun hHeld=>?_);clear hK K;refine nz ?_;refine ozZ 16 68 Tryz.func45 #[.int .i64 ((rd_T26 l0 x11_2).f1),.int .i64 a4] (spec_l9far.calls ((rd_T26 l0 x11_2).f1) a4 t281 _ A28.out) (fun K hK=>?_);rintro w' ⟨nd,rfl⟩;refine hK.out _ _ ⟨(have q_:=El26.up HB.out W278;q_),(have q_:=El26.up HB.out W280;q_),(have q_:=El26.up HB.out W282;q_),(have q_:=El26.up HB.out W283;q_)⟩ (fun hHeld=>?_);clear hK K;refine nz ?_;refine pz 17 69 ?_;refine pz 18 70 ?_;refine pz 19 71 ?_;refine pz 20 72 ?_;refine pz 21 73 ?_;refine pz 22 74 ?_;refine pz 23 75 ?_;refine pz 25 77 ?_;refine pz 26 78 ?_;refine pz 27 79 ?_;refine pz 28 80 ?_;refine tk4_ 24 76 hHeld ?_;refine tk4_ 29 81 hHeld ?_;refine pz 30 82 ?_;refine pz 31 83 ?_;refine done_ (done_of HT_.out (by kernel_rfl)) ?_;go_upto_if 83 with(fail)
                (try(rw[drewN_self w32];generalize hq_:World.drewN w32 _=w32;have n0_:Aside0 (Below w.heap.size w w32):=⟨zz101⟩;clear HB hq_;have HB:=n0_;clear n0_));have H:=HC31.out;clear HC31
                by_cases c33:((rd_T26 l0 x12_2).f1)=((rd_T26 l0 x11_2).f1)
                ·rw[if_pos c33]at H;have c33b0:(((rd_T26 l0 x12_2).f1)==((rd_T26 l0 x11_2).f1))=true:=beq_iff_eq.mpr c33;have c33b1:(((rd_T26 l0 x12_2).f1)!=((rd_T26 l0 x11_2).f1))=false:=bne_eq_false_iff_eq.mpr c33;clear c33;(first|rw[c33b0]|(simp only[i64_w,i32_w];rw[c33b0])|rw[c33b1]|(rw[c33b2];simp only[Bool.not_true,Bool.not_false])|skip);have H':=Aside0.mk H;clear H;go_wp2
                 go_roundg kj13
                 (case measure=>have:=HJ5.out;have:=HK2.out;have:=HJ13.out;omega);case rel=>exact⟨(x12_2),(wrap64 (x12_2+1)),zz2,zz2,H',⟨zz78⟩,⟨zz0⟩⟩
                ·rw[if_neg c33]at H;have c33b0:(((rd_T26 l0 x12_2).f1)==((rd_T26 l0 x11_2).f1))=false:=beq_eq_false_iff_ne.mpr c33;have c33b1:(((rd_T26 l0 x12_2).f1)!=((rd_T26 l0 x11_2).f1))=true:=bne_iff_ne.mpr c33;(first|rw[c33b0]|(simp only[i64_w,i32_w];rw[c33b0])|rw[c33b1]|(rw[c33b2];simp only[Bool.not_true,Bool.not_false])|skip);have H':=Aside0.mk H;clear H;go_wp2
                 go_roundg kj13
                 (case measure=>have:=HJ5.out;have:=HK2.out;have:=HJ13.out;omega);case rel=>exact⟨(x11_2),(wrap64 (x12_2+1)),zz2,zz2,H',⟨zz78⟩,⟨zz0⟩⟩
              ·rw[if_neg c27]at H;exact absurd H (by simp)
             ·rw[if_neg c26]at H;exact absurd H (by simp)
            ·rw[if_neg c24]at H;exact absurd H (by simp)
           ·rw[if_neg c23]at H;exact absurd H (by simp)
      ·rw[if_neg c13]at H;have c13b0:decide (x12_2<(l0.length:Int))=false:=decide_eq_false c13;clear c13;obtain rfl:=Option.some.inj H;go_wp2
       go_ret;exact⟨zz1,zz0⟩
end Go.Proofs.YteojcbbifacpnaaGreatDoor.GFnExactClosest
