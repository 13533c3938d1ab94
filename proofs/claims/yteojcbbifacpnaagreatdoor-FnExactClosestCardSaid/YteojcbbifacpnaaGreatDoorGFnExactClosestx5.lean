-- Printed by gen.py and its programs for this claim.
import Derived.Test.YteojcbbifacpnaaGreatDoorGFnExactClosestx0
import Derived.Test.YteojcbbifacpnaaGreatDoorGFnExactClosestx3
import Derived.Test.YteojcbbifacpnaaGreatDoorZFnExactClosest
namespace Go.Proofs.YteojcbbifacpnaaGreatDoor.GFnExactClosest
open Go.RowKit Go.Proofs.YteojcbbifacpnaaGreatDoorW.PrintWords Go.Proofs.YteojcbbifacpnaaGreatDoorW.PrintLast Go.Proofs.YteojcbbifacpnaaGreatDoorW.PrintMore Go.Proofs.YteojcbbifacpnaaGreatDoorW.Zs
set_option maxHeartbeats 40000000
set_option maxRecDepth 100000
attribute [local go_sem] max2_int min2_int max_two min_two max_three min_three max_four min_four
set_option linter.unusedVariables false
set_option linter.unusedSimpArgs false
def spec_l6visible.l0:Nat→ByteArray→Int→Option (Bool)
 |0,_,_=>none
 |k+1,x0,x3=>if x3<(x0.size:Int)then(if 0≤x3 then(if(bt x0 x3)<33 then(some false)else(if(bt x0 x3)>126 then(some false)else(spec_l6visible.l0 k x0 (wrap64 (x3+1)))))else(none))else(some (decide ((x0.size:Int)>0)))
def spec_l6visible.f (k:Nat) (a0:ByteArray):Option (Bool):=spec_l6visible.l0 k a0 0
theorem spec_l6visible.calls (k:Nat) (a0:ByteArray) (r:Bool) (w:World) (h:spec_l6visible.f k a0=some r):
  Calls Tryz.prog 126 #[.string a0] w fun e w'=>e= .returned (.bool r)∧Drawn0 w w':=by
 have H:(spec_l6visible.l0 k a0 0)=some r:=h;clear h;have H':=Aside0.mk H;clear H;go_enter Tryz.func126,Tryz.ntmps126
 go_wp2
 go_loopg [3] k (fun kq v3 w'=> ∃(x3_1:Int),v3= .int .i64 x3_1∧Aside0 (spec_l6visible.l0 kq a0 x3_1=some r)∧Aside0 (kq≤k)∧Drawn0 w w')
 case atStart=>exact⟨(0),zz2,H',⟨Nat.le_refl _⟩,zz4⟩
 case round=>
  clear H';(try clear c1);obtain⟨x3_1,rfl,HA,HK1,⟨m1,rfl⟩⟩:=hrel
  cases gk with
  |zero=>exact absurd HA.out (by simp[spec_l6visible.l0])
  |succ k1=>
   have H:=HA.out;clear HA;simp only[spec_l6visible.l0]at H
   by_cases c2:x3_1<(a0.size:Int)
   ·rw[if_pos c2]at H;have c2b0:decide (x3_1<(a0.size:Int))=true:=decide_eq_true c2;clear c2
    by_cases c3:0≤x3_1
    ·rw[if_pos c3]at H;have c3b0:decide (0≤x3_1)=true:=decide_eq_true c3;clear c3;have HC5:=Aside0.mk H;clear H;have p4:0≤(x3_1:Int):=of_decide_eq_true zz3;have q4:x3_1<(a0.size:Int):=of_decide_eq_true zz3;have hx4:=bt_at a0 x3_1;replace p4:=eq_true p4;replace q4:=eq_true q4
     repeat' (first|(go_big_may;(fail))|go_values|go_skip|go_big_skip|go_big_want|((first|(with_reducible refine gate_nog rfl ?_)|(fail_if_success with_reducible refine gate_any ?_));go_step)|go_upon|simp only[Bool.not_true,Bool.not_false,Bool.true_and,Bool.false_and,Bool.true_or,Bool.false_or]|dsimp only)
     have H:=HC5.out;clear HC5
     by_cases c6:(bt a0 x3_1)<33
     ·rw[if_pos c6]at H;have c6b0:decide ((bt a0 x3_1)<33)=true:=decide_eq_true c6;clear c6;(first|rw[c6b0]|(simp only[i64_w,i32_w];rw[c6b0])|skip);obtain rfl:=Option.some.inj H;go_wp2
      go_ret;exact⟨zz2,zz4⟩
     ·rw[if_neg c6]at H;have c6b0:decide ((bt a0 x3_1)<33)=false:=decide_eq_false c6;clear c6;(first|rw[c6b0]|(simp only[i64_w,i32_w];rw[c6b0])|skip)
      by_cases c8:(bt a0 x3_1)>126
      ·rw[if_pos c8]at H;have c8b0:decide (126<(bt a0 x3_1))=true:=decide_eq_true c8;clear c8;obtain rfl:=Option.some.inj H;have p7:0≤(x3_1:Int):=of_decide_eq_true zz3;have q7:x3_1<(a0.size:Int):=of_decide_eq_true zz3;have hx7:=bt_at a0 x3_1;replace p7:=eq_true p7;replace q7:=eq_true q7;go_wp2
       go_ret;exact⟨zz2,zz4⟩
      ·rw[if_neg c8]at H;have c8b0:decide (126<(bt a0 x3_1))=false:=decide_eq_false c8;clear c8;have H':=Aside0.mk H;clear H;have p7:0≤(x3_1:Int):=of_decide_eq_true zz3;have q7:x3_1<(a0.size:Int):=of_decide_eq_true zz3;have hx7:=bt_at a0 x3_1;replace p7:=eq_true p7;replace q7:=eq_true q7;go_wp2
       go_roundg k1
       (case measure=>have:=HK1.out;omega);case rel=>exact⟨(wrap64 (x3_1+1)),zz2,H',⟨zz50⟩,zz4⟩
    ·rw[if_neg c3]at H;exact absurd H (by simp)
   ·rw[if_neg c2]at H;have c2b0:decide (x3_1<(a0.size:Int))=false:=decide_eq_false c2;clear c2;obtain rfl:=Option.some.inj H;go_wp2
    go_ret;exact⟨zz2,zz4⟩
def spec_l1lower.f (a0:Int):Option (Int):=if a0≥65 then(if a0≤90 then(some ((a0+32)%256))else(some a0))else(some a0)
theorem spec_l1lower.calls (a0 r:Int) (w:World) (h:spec_l1lower.f a0=some r):
  Calls Tryz.prog 129 #[.int .u8 a0] w fun e w'=>e= .returned (.int .u8 r)∧Drawn0 w w':=by
 have H:(if a0≥65 then(if a0≤90 then(some ((a0+32)%256))else(some a0))else(some a0))=some r:=h;clear h
 by_cases c2:a0≥65
 ·rw[if_pos c2]at H;have c2b0:decide (65≤a0)=true:=decide_eq_true c2;clear c2
  by_cases c3:a0≤90
  ·rw[if_pos c3]at H;have c3b0:decide (a0≤90)=true:=decide_eq_true c3;clear c3;obtain rfl:=Option.some.inj H;go_enter Tryz.func129,Tryz.ntmps129
   go_wp2
   go_ret;exact⟨zz2,zz4⟩
  ·rw[if_neg c3]at H;have c3b0:decide (a0≤90)=false:=decide_eq_false c3;clear c3;obtain rfl:=Option.some.inj H;go_enter Tryz.func129,Tryz.ntmps129
   go_wp2
   go_ret;exact⟨zz2,zz4⟩
 ·rw[if_neg c2]at H;have c2b0:decide (65≤a0)=false:=decide_eq_false c2;clear c2;obtain rfl:=Option.some.inj H;go_enter Tryz.func129,Tryz.ntmps129
  go_wp2
  go_ret;exact⟨zz2,zz4⟩
mutual
def spec_ReadHex.j0:Nat→ByteArray→Bool→Option (Int×Bool)
 |0,_,_=>none
 |k+1,x0,x14=>if x14=true then(some (0,false))else(spec_ReadHex.l0 k x0 0 0)
def spec_ReadHex.l0:Nat→ByteArray→Int→Int→Option (Int×Bool)
 |0,_,_,_=>none
 |k+1,x0,x4,x5=>if x5<(x0.size:Int)then(if 0≤x5 then((spec_l1lower.f (bt x0 x5)).bind fun t155=>((spec_l1digit.f t155).bind fun t156=>(if t156=true then(spec_ReadHex.l0 k x0 (wrap64 ((wrap64 (x4*16))+((t155-48)%256))) (wrap64 (x5+1)))else(if t155≥97 then(if t155≤102 then(spec_ReadHex.l0 k x0 (wrap64 ((wrap64 ((wrap64 (x4*16))+((t155-97)%256)))+10)) (wrap64 (x5+1)))else(some (0,false)))else(some (0,false))))))else(none))else(some (x4,true))
end
def spec_ReadHex.f (k:Nat) (a0:ByteArray):Option (Int×Bool):=if(a0.size:Int)=0 then(spec_ReadHex.j0 k a0 true)else(spec_ReadHex.j0 k a0 (decide ((a0.size:Int)>7)))
theorem spec_ReadHex.calls (k:Nat) (a0:ByteArray) (r1:Int) (r2:Bool) (w:World) (h:spec_ReadHex.f k a0=some (r1,r2)):
  Calls Tryz.prog 175 #[.string a0] w fun e w'=>e= .returned (.tuple #[.int .i64 r1,.bool r2])∧Drawn0 w w':=by
 have H:(if(a0.size:Int)=0 then(spec_ReadHex.j0 k a0 true)else(spec_ReadHex.j0 k a0 (decide ((a0.size:Int)>7))))=some (r1,r2):=h;clear h;have HC2:=Aside0.mk H;clear H;go_enter Tryz.func175,Tryz.ntmps175
 go_upto_region 1 with(fail)
 go_cut [14] (fun v14 wc=> ∃(kq:Nat) (x14_1:Bool),v14= .bool x14_1∧Aside0 (spec_ReadHex.j0 kq a0 x14_1=some (r1,r2))∧Aside0 (kq≤k)∧Drawn0 w wc)
 case first=>
  have H:=HC2.out;clear HC2
  by_cases c3:(a0.size:Int)=0
  ·rw[if_pos c3]at H;have c3b0:((a0.size:Int)==0)=true:=beq_iff_eq.mpr c3;have c3b1:((a0.size:Int)!=0)=false:=bne_eq_false_iff_eq.mpr c3;clear c3;(first|rw[c3b0]|(simp only[i64_w,i32_w];rw[c3b0])|rw[c3b1]|(rw[c3b2];simp only[Bool.not_true,Bool.not_false])|skip);have H':=Aside0.mk H;clear H;go_wp2
   go_meet
   case rel=>exact⟨_,(true),zz2,H',⟨zz22⟩,zz4⟩
  ·rw[if_neg c3]at H;have c3b0:((a0.size:Int)==0)=false:=beq_eq_false_iff_ne.mpr c3;have c3b1:((a0.size:Int)!=0)=true:=bne_iff_ne.mpr c3;(first|rw[c3b0]|(simp only[i64_w,i32_w];rw[c3b0])|rw[c3b1]|(rw[c3b2];simp only[Bool.not_true,Bool.not_false])|skip);have H':=Aside0.mk H;clear H;go_wp2
   go_meet
   case rel=>exact⟨_,(decide ((a0.size:Int)>7)),zz2,H',⟨zz22⟩,zz4⟩
 case rest=>
  clear HC2;(try clear c1);(try clear p2);(try clear c3);(try clear c3b0);(try clear c3b1);obtain⟨kq,x14_1,rfl,HA,HJ1,⟨mc1,rfl⟩⟩:=hcut
  cases kq with
  |zero=>exact absurd HA.out (by simp[spec_ReadHex.j0])
  |succ kj1=>
   have H:=HA.out;clear HA;simp only[spec_ReadHex.j0]at H
   by_cases c4:x14_1=true
   ·subst c4;rw[if_pos rfl]at H;simp only[Option.some.injEq,Prod.mk.injEq]at H;obtain⟨rfl,rfl⟩:=H;go_wp2
    go_ret2
    exact⟨zz2,zz4⟩
   ·replace c4:=Bool.eq_false_iff.mpr c4;subst c4;rw[if_neg Bool.false_ne_true]at H;have H':=Aside0.mk H;clear H;go_wp2
    go_loopg [4,5] kj1 (fun kq v4 v5 w'=> ∃(x4_2 x5_2:Int),v4= .int .i64 x4_2∧v5= .int .i64 x5_2∧Aside0 (spec_ReadHex.l0 kq a0 x4_2 x5_2=some (r1,r2))∧Aside0 (kq≤kj1)∧Drawn0 w w')
    case atStart=>exact⟨(0),(0),zz2,zz2,H',⟨Nat.le_refl _⟩,zz4⟩
    case round=>
     clear H';(try clear c1);(try clear p2);(try clear c3);(try clear c3b0);(try clear c3b1);(try clear c4);(try clear p2);obtain⟨x4_2,x5_2,rfl,rfl,HA,HK2,⟨m2,rfl⟩⟩:=hrel
     cases gk with
     |zero=>exact absurd HA.out (by simp[spec_ReadHex.l0])
     |succ k2=>
      have H:=HA.out;clear HA;simp only[spec_ReadHex.l0]at H
      by_cases c5:x5_2<(a0.size:Int)
      ·rw[if_pos c5]at H;have c5b0:decide (x5_2<(a0.size:Int))=true:=decide_eq_true c5;clear c5
       by_cases c6:0≤x5_2
       ·rw[if_pos c6]at H;have c6b0:decide (0≤x5_2)=true:=decide_eq_true c6;clear c6;replace H:=Option.bind_eq_some_iff.mp H;obtain⟨t155,A80,H⟩:=H;(try dsimp only at H);have A8:=Aside0.mk A80;clear A80;replace H:=Option.bind_eq_some_iff.mp H;obtain⟨t156,A90,H⟩:=H;(try dsimp only at H);have A9:=Aside0.mk A90;clear A90;have HC10:=Aside0.mk H;clear H;have p7:0≤(x5_2:Int):=of_decide_eq_true zz3;have q7:x5_2<(a0.size:Int):=of_decide_eq_true zz3;have hx7:=bt_at a0 x5_2;replace p7:=eq_true p7;replace q7:=eq_true q7;go_upto_if 25 with(first|((with_reducible refine gate_callee (f:=129) rfl ?_);refine goesR_ 24 Tryz.func129 #[.int .u8 (bt a0 x5_2)] (spec_l1lower.calls (bt a0 x5_2) t155 _ A8.out) ?_;rintro w' ⟨nd,rfl⟩)|((with_reducible refine gate_callee (f:=79) rfl ?_);refine goesR_ 27 Tryz.func79 #[.int .u8 t155] (spec_l1digit.calls t155 t156 _ A9.out) ?_;rintro w' ⟨nd,rfl⟩))
        (try simp only[Act.put,List.setIfInBounds_toArray,List.set_cons_zero,List.set_cons_succ]);have H:=HC10.out;clear HC10
        by_cases c11:t156=true
        ·subst c11;rw[if_pos rfl]at H;have H':=Aside0.mk H;clear H;go_wp2
         go_roundg k2
         (case measure=>have:=HJ1.out;have:=HK2.out;omega);case rel=>exact⟨(wrap64 ((wrap64 (x4_2*16))+((t155-48)%256))),(wrap64 (x5_2+1)),zz2,zz2,H',⟨zz71⟩,zz4⟩
        ·replace c11:=Bool.eq_false_iff.mpr c11;subst c11;rw[if_neg Bool.false_ne_true]at H
         by_cases c12:t155≥97
         ·rw[if_pos c12]at H;have c12b0:decide (97≤t155)=true:=decide_eq_true c12;clear c12;(first|rw[c12b0]|(simp only[i64_w,i32_w];rw[c12b0])|skip)
          by_cases c13:t155≤102
          ·rw[if_pos c13]at H;have c13b0:decide (t155≤102)=true:=decide_eq_true c13;clear c13;have H':=Aside0.mk H;clear H;go_wp2
           go_roundg k2
           (case measure=>have:=HJ1.out;have:=HK2.out;omega);case rel=>exact⟨(wrap64 ((wrap64 ((wrap64 (x4_2*16))+((t155-97)%256)))+10)),(wrap64 (x5_2+1)),zz2,zz2,H',⟨zz71⟩,zz4⟩
          ·rw[if_neg c13]at H;have c13b0:decide (t155≤102)=false:=decide_eq_false c13;clear c13;simp only[Option.some.injEq,Prod.mk.injEq]at H;obtain⟨rfl,rfl⟩:=H;go_wp2
           go_ret2
           exact⟨zz2,zz4⟩
         ·rw[if_neg c12]at H;have c12b0:decide (97≤t155)=false:=decide_eq_false c12;clear c12;(first|rw[c12b0]|(simp only[i64_w,i32_w];rw[c12b0])|skip);simp only[Option.some.injEq,Prod.mk.injEq]at H;obtain⟨rfl,rfl⟩:=H;go_wp2
          go_ret2
          exact⟨zz2,zz4⟩
       ·rw[if_neg c6]at H;exact absurd H (by simp)
      ·rw[if_neg c5]at H;have c5b0:decide (x5_2<(a0.size:Int))=false:=decide_eq_false c5;clear c5;simp only[Option.some.injEq,Prod.mk.injEq]at H;obtain⟨rfl,rfl⟩:=H;go_wp2
       go_ret2
       exact⟨zz2,zz4⟩
def spec_l1has.l0:Nat→ByteArray→Int→Int→Option (Bool)
 |0,_,_,_=>none
 |k+1,x0,x1,x5=>if x5<(x0.size:Int)then(if 0≤x5 then(if(bt x0 x5)=x1 then(some true)else(spec_l1has.l0 k x0 x1 (wrap64 (x5+1))))else(none))else(some false)
def spec_l1has.f (k:Nat) (a0:ByteArray) (a1:Int):Option (Bool):=spec_l1has.l0 k a0 a1 0
theorem spec_l1has.calls (k:Nat) (a0:ByteArray) (a1:Int) (r:Bool) (w:World) (h:spec_l1has.f k a0 a1=some r):
  Calls Tryz.prog 130 #[.string a0,.int .u8 a1] w fun e w'=>e= .returned (.bool r)∧Drawn0 w w':=by
 have H:(spec_l1has.l0 k a0 a1 0)=some r:=h;clear h;have H':=Aside0.mk H;clear H;go_enter Tryz.func130,Tryz.ntmps130
 go_wp2
 go_loopg [5] k (fun kq v5 w'=> ∃(x5_1:Int),v5= .int .i64 x5_1∧Aside0 (spec_l1has.l0 kq a0 a1 x5_1=some r)∧Aside0 (kq≤k)∧Drawn0 w w')
 case atStart=>exact⟨(0),zz2,H',⟨Nat.le_refl _⟩,zz4⟩
 case round=>
  clear H';(try clear c1);(try clear p2);obtain⟨x5_1,rfl,HA,HK1,⟨m1,rfl⟩⟩:=hrel
  cases gk with
  |zero=>exact absurd HA.out (by simp[spec_l1has.l0])
  |succ k1=>
   have H:=HA.out;clear HA;simp only[spec_l1has.l0]at H
   by_cases c3:x5_1<(a0.size:Int)
   ·rw[if_pos c3]at H;have c3b0:decide (x5_1<(a0.size:Int))=true:=decide_eq_true c3;clear c3
    by_cases c4:0≤x5_1
    ·rw[if_pos c4]at H;have c4b0:decide (0≤x5_1)=true:=decide_eq_true c4;clear c4
     by_cases c6:(bt a0 x5_1)=a1
     ·rw[if_pos c6]at H;have c6b0:((bt a0 x5_1)==a1)=true:=beq_iff_eq.mpr c6;have c6b1:((bt a0 x5_1)!=a1)=false:=bne_eq_false_iff_eq.mpr c6;clear c6;obtain rfl:=Option.some.inj H;have p5:0≤(x5_1:Int):=of_decide_eq_true zz3;have q5:x5_1<(a0.size:Int):=of_decide_eq_true zz3;have hx5:=bt_at a0 x5_1;replace p5:=eq_true p5;replace q5:=eq_true q5;go_wp2
      go_ret;exact⟨zz2,zz4⟩
     ·rw[if_neg c6]at H;have c6b0:((bt a0 x5_1)==a1)=false:=beq_eq_false_iff_ne.mpr c6;have c6b1:((bt a0 x5_1)!=a1)=true:=bne_iff_ne.mpr c6;have H':=Aside0.mk H;clear H;have p5:0≤(x5_1:Int):=of_decide_eq_true zz3;have q5:x5_1<(a0.size:Int):=of_decide_eq_true zz3;have hx5:=bt_at a0 x5_1;replace p5:=eq_true p5;replace q5:=eq_true q5;go_wp2
      go_roundg k1
      (case measure=>have:=HK1.out;omega);case rel=>exact⟨(wrap64 (x5_1+1)),zz2,H',⟨zz50⟩,zz4⟩
    ·rw[if_neg c4]at H;exact absurd H (by simp)
   ·rw[if_neg c3]at H;have c3b0:decide (x5_1<(a0.size:Int))=false:=decide_eq_false c3;clear c3;obtain rfl:=Option.some.inj H;go_wp2
    go_ret;exact⟨zz2,zz4⟩
def spec_l7free.f (k:Nat) (a0:Int):Option (Bool):=(spec_l1lower.f a0).bind fun t157=>(if t157≥97 then(if t157≤122 then(some true)else((spec_l1digit.f a0).bind fun t158=>(if t158=true then(some true)else((spec_l1has.f k (⟨#[45,46,95,126]⟩:ByteArray) a0).bind fun t159=>(some t159)))))else((spec_l1digit.f a0).bind fun t160=>(if t160=true then(some true)else((spec_l1has.f k (⟨#[45,46,95,126]⟩:ByteArray) a0).bind fun t161=>(some t161)))))
theorem spec_l7free.calls (k:Nat) (a0:Int) (r:Bool) (w:World) (h:spec_l7free.f k a0=some r):
  Calls Tryz.prog 176 #[.int .u8 a0] w fun e w'=>e= .returned (.bool r)∧Drawn0 w w':=by
 have H:((spec_l1lower.f a0).bind fun t157=>(if t157≥97 then(if t157≤122 then(some true)else((spec_l1digit.f a0).bind fun t158=>(if t158=true then(some true)else((spec_l1has.f k (⟨#[45,46,95,126]⟩:ByteArray) a0).bind fun t159=>(some t159)))))else((spec_l1digit.f a0).bind fun t160=>(if t160=true then(some true)else((spec_l1has.f k (⟨#[45,46,95,126]⟩:ByteArray) a0).bind fun t161=>(some t161))))))=some r:=h;clear h;replace H:=Option.bind_eq_some_iff.mp H;obtain⟨t157,A20,H⟩:=H;(try dsimp only at H);have A2:=Aside0.mk A20;clear A20;have HC3:=Aside0.mk H;clear H;go_enter Tryz.func176,Tryz.ntmps176
 repeat' (first|(go_big_may;(first|((with_reducible refine gate_callee (f:=129) rfl ?_);refine goesR_ 5 Tryz.func129 #[.int .u8 a0] (spec_l1lower.calls a0 t157 _ A2.out) ?_;rintro w' ⟨nd,rfl⟩)))|go_values|go_skip|go_big_skip|go_big_want|((first|(with_reducible refine gate_nog rfl ?_)|(fail_if_success with_reducible refine gate_any ?_));go_step)|go_upon|simp only[Bool.not_true,Bool.not_false,Bool.true_and,Bool.false_and,Bool.true_or,Bool.false_or]|dsimp only)
 (try simp only[Act.put,List.setIfInBounds_toArray,List.set_cons_zero,List.set_cons_succ]);have H:=HC3.out;clear HC3
 by_cases c4:t157≥97
 ·rw[if_pos c4]at H;have c4b0:decide (97≤t157)=true:=decide_eq_true c4;clear c4;(first|rw[c4b0]|(simp only[i64_w,i32_w];rw[c4b0])|skip)
  by_cases c5:t157≤122
  ·rw[if_pos c5]at H;have c5b0:decide (t157≤122)=true:=decide_eq_true c5;clear c5;obtain rfl:=Option.some.inj H;go_wp2
   go_ret;exact⟨zz2,zz4⟩
  ·rw[if_neg c5]at H;have c5b0:decide (t157≤122)=false:=decide_eq_false c5;clear c5;replace H:=Option.bind_eq_some_iff.mp H;obtain⟨t158,A60,H⟩:=H;(try dsimp only at H);have A6:=Aside0.mk A60;clear A60;have HC7:=Aside0.mk H;clear H
   repeat' (first|(go_big_may;(first|(go_at_call 79;(with_reducible refine(spec_l1digit.calls a0 t158 _ A6.out).mono ?_);rintro e w' ⟨rfl,⟨nd,rfl⟩⟩)))|go_values|go_skip|go_big_skip|go_big_want|((first|(with_reducible refine gate_nog rfl ?_)|(fail_if_success with_reducible refine gate_any ?_));go_step)|go_upon|simp only[Bool.not_true,Bool.not_false,Bool.true_and,Bool.false_and,Bool.true_or,Bool.false_or]|dsimp only)
   (try simp only[Act.put,List.setIfInBounds_toArray,List.set_cons_zero,List.set_cons_succ]);have H:=HC7.out;clear HC7
   by_cases c8:t158=true
   ·subst c8;rw[if_pos rfl]at H;obtain rfl:=Option.some.inj H;go_wp2
    go_ret;exact⟨zz2,zz4⟩
   ·replace c8:=Bool.eq_false_iff.mpr c8;subst c8;rw[if_neg Bool.false_ne_true]at H;replace H:=Option.bind_eq_some_iff.mp H;obtain⟨t159,A90,H⟩:=H;(try dsimp only at H);have A9:=Aside0.mk A90;clear A90;obtain rfl:=Option.some.inj H;go_wp2_with (first|(go_at_call 130;(with_reducible refine(spec_l1has.calls k (⟨#[45,46,95,126]⟩:ByteArray) a0 t159 _ A9.out).mono ?_);rintro e w' ⟨rfl,⟨nd,rfl⟩⟩))
    go_ret;exact⟨zz2,zz4⟩
 ·rw[if_neg c4]at H;have c4b0:decide (97≤t157)=false:=decide_eq_false c4;clear c4;(first|rw[c4b0]|(simp only[i64_w,i32_w];rw[c4b0])|skip);replace H:=Option.bind_eq_some_iff.mp H;obtain⟨t160,A100,H⟩:=H;(try dsimp only at H);have A10:=Aside0.mk A100;clear A100;have HC11:=Aside0.mk H;clear H
  repeat' (first|(go_big_may;(first|(go_at_call 79;(with_reducible refine(spec_l1digit.calls a0 t160 _ A10.out).mono ?_);rintro e w' ⟨rfl,⟨nd,rfl⟩⟩)))|go_values|go_skip|go_big_skip|go_big_want|((first|(with_reducible refine gate_nog rfl ?_)|(fail_if_success with_reducible refine gate_any ?_));go_step)|go_upon|simp only[Bool.not_true,Bool.not_false,Bool.true_and,Bool.false_and,Bool.true_or,Bool.false_or]|dsimp only)
  (try simp only[Act.put,List.setIfInBounds_toArray,List.set_cons_zero,List.set_cons_succ]);have H:=HC11.out;clear HC11
  by_cases c12:t160=true
  ·subst c12;rw[if_pos rfl]at H;obtain rfl:=Option.some.inj H;go_wp2
   go_ret;exact⟨zz2,zz4⟩
  ·replace c12:=Bool.eq_false_iff.mpr c12;subst c12;rw[if_neg Bool.false_ne_true]at H;replace H:=Option.bind_eq_some_iff.mp H;obtain⟨t161,A130,H⟩:=H;(try dsimp only at H);have A13:=Aside0.mk A130;clear A130;obtain rfl:=Option.some.inj H;go_wp2_with (first|(go_at_call 130;(with_reducible refine(spec_l1has.calls k (⟨#[45,46,95,126]⟩:ByteArray) a0 t161 _ A13.out).mono ?_);rintro e w' ⟨rfl,⟨nd,rfl⟩⟩))
   go_ret;exact⟨zz2,zz4⟩
def spec_l7upper.f (a0:Int):Option (Int):=if a0≥97 then(if a0≤122 then(some ((a0-32)%256))else(some a0))else(some a0)
theorem spec_l7upper.calls (a0 r:Int) (w:World) (h:spec_l7upper.f a0=some r):
  Calls Tryz.prog 177 #[.int .u8 a0] w fun e w'=>e= .returned (.int .u8 r)∧Drawn0 w w':=by
 have H:(if a0≥97 then(if a0≤122 then(some ((a0-32)%256))else(some a0))else(some a0))=some r:=h;clear h
 by_cases c2:a0≥97
 ·rw[if_pos c2]at H;have c2b0:decide (97≤a0)=true:=decide_eq_true c2;clear c2
  by_cases c3:a0≤122
  ·rw[if_pos c3]at H;have c3b0:decide (a0≤122)=true:=decide_eq_true c3;clear c3;obtain rfl:=Option.some.inj H;go_enter Tryz.func177,Tryz.ntmps177
   go_wp2
   go_ret;exact⟨zz2,zz4⟩
  ·rw[if_neg c3]at H;have c3b0:decide (a0≤122)=false:=decide_eq_false c3;clear c3;obtain rfl:=Option.some.inj H;go_enter Tryz.func177,Tryz.ntmps177
   go_wp2
   go_ret;exact⟨zz2,zz4⟩
 ·rw[if_neg c2]at H;have c2b0:decide (97≤a0)=false:=decide_eq_false c2;clear c2;obtain rfl:=Option.some.inj H;go_enter Tryz.func177,Tryz.ntmps177
  go_wp2
  go_ret;exact⟨zz2,zz4⟩
end Go.Proofs.YteojcbbifacpnaaGreatDoor.GFnExactClosest
