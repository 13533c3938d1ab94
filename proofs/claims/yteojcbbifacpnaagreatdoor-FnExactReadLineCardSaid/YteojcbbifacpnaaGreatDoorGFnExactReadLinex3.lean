-- Printed by gen.py and its programs for this claim.
import Derived.Test.YteojcbbifacpnaaGreatDoorGFnExactReadLinex0
import Derived.Test.YteojcbbifacpnaaGreatDoorGFnExactReadLinex1
import Derived.Test.YteojcbbifacpnaaGreatDoorZFnExactReadLine
namespace Go.Proofs.YteojcbbifacpnaaGreatDoor.GFnExactReadLine
open Go.RowKit Go.Proofs.YteojcbbifacpnaaGreatDoorW.PrintWords Go.Proofs.YteojcbbifacpnaaGreatDoorW.PrintLast Go.Proofs.YteojcbbifacpnaaGreatDoorW.PrintMore Go.Proofs.YteojcbbifacpnaaGreatDoorW.Zs
set_option maxHeartbeats 40000000
set_option maxRecDepth 100000
attribute [local go_sem] zL qL xN zN qK xK xL jL
set_option linter.unusedVariables false
set_option linter.unusedSimpArgs false
def yI.l0:Nat→ByteArray→Int→Option (Bool)
 |0,_,_=>none
 |k+1,x0,x3=>if x3<(x0.size:Int)then(if 0≤x3 then(if(bt x0 x3)<33 then(some false)else(if(bt x0 x3)>126 then(some false)else(yI.l0 k x0 (wrap64 (x3+1)))))else(none))else(some (decide ((x0.size:Int)>0)))
def yI.f (k:Nat) (a0:ByteArray):Option (Bool):=yI.l0 k a0 0
theorem yI.calls (k:Nat) (a0:ByteArray) (r:Bool) (w:World) (h:yI.f k a0=some r):
  Calls Tryz.prog 126 #[.string a0] w fun e w'=>e= .returned (.bool r)∧wI w w':=by
 have H:(yI.l0 k a0 0)=some r:=h;clear h;have H':=am_ H;clear H;go_enter Tryz.func126,Tryz.ntmps126
 go_wp2
 go_loopg [3] k (fun kq v3 w'=> ∃(x3_1:Int),v3= .int .i64 x3_1∧wA (yI.l0 kq a0 x3_1=some r)∧wA (kq≤k)∧wI w w')
 case atStart=>exact⟨(0),vB,H',⟨Nat.le_refl _⟩,zz4⟩
 case round=>
  clear H';(try clear c1);obtain⟨x3_1,rfl,HA,HK1,⟨m1,rfl⟩⟩:=hrel
  cases gk with
  |zero=>exact absurd HA.out (by simp[yI.l0])
  |succ k1=>
   have H:=HA.out;clear HA;simp only[yI.l0]at H
   by_cases c2:x3_1<(a0.size:Int)
   ·rw[if_pos c2]at H;have c2b0:=dt_ c2;clear c2
    by_cases c3:0≤x3_1
    ·rw[if_pos c3]at H;have c3b0:=dt_ c3;clear c3;have HC5:=am_ H;clear H;have p4:0≤(x3_1:Int):=od_ zz5;have q4:x3_1<(a0.size:Int):=od_ zz5;have hx4:=wP a0 x3_1;replace p4:=eq_true p4;replace q4:=eq_true q4
     repeat' (first|(go_big_may;(fail))|go_values|go_skip|go_big_skip|go_big_want|((first|(with_reducible refine wE rfl ?_)|(fail_if_success with_reducible refine yE ?_));go_step)|go_upon|simp only[Bool.not_true,Bool.not_false,Bool.true_and,Bool.false_and,Bool.true_or,Bool.false_or]|dsimp only)
     have H:=HC5.out;clear HC5
     by_cases c6:(bt a0 x3_1)<33
     ·rw[if_pos c6]at H;have c6b0:=dt_ c6;clear c6;(first|rw[c6b0]|(simp only[yC,qD];rw[c6b0])|skip);obtain rfl:=si_ H;go_wp2
      go_ret;exact⟨vB,zz4⟩
     ·rw[if_neg c6]at H;have c6b0:=df_ c6;clear c6;(first|rw[c6b0]|(simp only[yC,qD];rw[c6b0])|skip)
      by_cases c8:(bt a0 x3_1)>126
      ·rw[if_pos c8]at H;have c8b0:decide (126<(bt a0 x3_1))=true:=dt_ c8;clear c8;obtain rfl:=si_ H;have p7:0≤(x3_1:Int):=od_ zz5;have q7:x3_1<(a0.size:Int):=od_ zz5;have hx7:=wP a0 x3_1;replace p7:=eq_true p7;replace q7:=eq_true q7;go_wp2
       go_ret;exact⟨vB,zz4⟩
      ·rw[if_neg c8]at H;have c8b0:decide (126<(bt a0 x3_1))=false:=df_ c8;clear c8;have H':=am_ H;clear H;have p7:0≤(x3_1:Int):=od_ zz5;have q7:x3_1<(a0.size:Int):=od_ zz5;have hx7:=wP a0 x3_1;replace p7:=eq_true p7;replace q7:=eq_true q7;go_wp2
       go_roundg k1
       (case measure=>have:=HK1.out;omega);case rel=>exact⟨(wrap64 (x3_1+1)),vB,H',⟨aJ5⟩,zz4⟩
    ·rw[if_neg c3]at H;exact absurd H (by simp)
   ·rw[if_neg c2]at H;have c2b0:=df_ c2;clear c2;obtain rfl:=si_ H;go_wp2
    go_ret;exact⟨vB,zz4⟩
def qQ.f (a0:Int):Option (Int):=if a0≥65 then(if a0≤90 then(some ((a0+32)%256))else(some a0))else(some a0)
theorem qQ.calls (a0 r:Int) (w:World) (h:qQ.f a0=some r):
  Calls Tryz.prog 129 #[.int .u8 a0] w fun e w'=>e= .returned (.int .u8 r)∧wI w w':=by
 have H:(if a0≥65 then(if a0≤90 then(some ((a0+32)%256))else(some a0))else(some a0))=some r:=h;clear h
 by_cases c2:a0≥65
 ·rw[if_pos c2]at H;have c2b0:decide (65≤a0)=true:=dt_ c2;clear c2
  by_cases c3:a0≤90
  ·rw[if_pos c3]at H;have c3b0:=dt_ c3;clear c3;obtain rfl:=si_ H;go_enter Tryz.func129,Tryz.ntmps129
   go_wp2
   go_ret;exact⟨vB,zz4⟩
  ·rw[if_neg c3]at H;have c3b0:=df_ c3;clear c3;obtain rfl:=si_ H;go_enter Tryz.func129,Tryz.ntmps129
   go_wp2
   go_ret;exact⟨vB,zz4⟩
 ·rw[if_neg c2]at H;have c2b0:decide (65≤a0)=false:=df_ c2;clear c2;obtain rfl:=si_ H;go_enter Tryz.func129,Tryz.ntmps129
  go_wp2
  go_ret;exact⟨vB,zz4⟩
mutual
def qH.j0:Nat→ByteArray→Bool→Option (Int×Bool)
 |0,_,_=>none
 |k+1,x0,x14=>if x14=true then(some (0,false))else(qH.l0 k x0 0 0)
def qH.l0:Nat→ByteArray→Int→Int→Option (Int×Bool)
 |0,_,_,_=>none
 |k+1,x0,x4,x5=>if x5<(x0.size:Int)then(if 0≤x5 then((qQ.f (bt x0 x5)).bind fun t129=>((jI.f t129).bind fun t130=>(if t130=true then(qH.l0 k x0 (wrap64 ((wrap64 (x4*16))+((t129-48)%256))) (wrap64 (x5+1)))else(if t129≥97 then(if t129≤102 then(qH.l0 k x0 (wrap64 ((wrap64 ((wrap64 (x4*16))+((t129-97)%256)))+10)) (wrap64 (x5+1)))else(some (0,false)))else(some (0,false))))))else(none))else(some (x4,true))
end
def qH.f (k:Nat) (a0:ByteArray):Option (Int×Bool):=if(a0.size:Int)=0 then(qH.j0 k a0 true)else(qH.j0 k a0 (decide ((a0.size:Int)>7)))
theorem qH.calls (k:Nat) (a0:ByteArray) (r1:Int) (r2:Bool) (w:World) (h:qH.f k a0=some (r1,r2)):
  Calls Tryz.prog 175 #[.string a0] w fun e w'=>e= .returned (.tuple #[.int .i64 r1,.bool r2])∧wI w w':=by
 have H:(if(a0.size:Int)=0 then(qH.j0 k a0 true)else(qH.j0 k a0 (decide ((a0.size:Int)>7))))=some (r1,r2):=h;clear h;have HC2:=am_ H;clear H;go_enter Tryz.func175,Tryz.ntmps175
 go_upto_region 1 with(fail)
 go_cut [14] (fun v14 wc=> ∃(kq:Nat) (x14_1:Bool),v14= .bool x14_1∧wA (qH.j0 kq a0 x14_1=some (r1,r2))∧wA (kq≤k)∧wI w wc)
 case first=>
  have H:=HC2.out;clear HC2
  by_cases c3:(a0.size:Int)=0
  ·rw[if_pos c3]at H;have c3b0:((a0.size:Int)==0)=true:=beq_iff_eq.mpr c3;have c3b1:((a0.size:Int)!=0)=false:=bne_eq_false_iff_eq.mpr c3;clear c3;(first|rw[c3b0]|(simp only[yC,qD];rw[c3b0])|rw[c3b1]|(rw[c3b2];simp only[Bool.not_true,Bool.not_false])|skip);have H':=am_ H;clear H;go_wp2
   go_meet
   case rel=>exact⟨_,(true),vB,H',⟨jT⟩,zz4⟩
  ·rw[if_neg c3]at H;have c3b0:((a0.size:Int)==0)=false:=beq_eq_false_iff_ne.mpr c3;have c3b1:((a0.size:Int)!=0)=true:=bne_iff_ne.mpr c3;(first|rw[c3b0]|(simp only[yC,qD];rw[c3b0])|rw[c3b1]|(rw[c3b2];simp only[Bool.not_true,Bool.not_false])|skip);have H':=am_ H;clear H;go_wp2
   go_meet
   case rel=>exact⟨_,(decide ((a0.size:Int)>7)),vB,H',⟨jT⟩,zz4⟩
 case rest=>
  clear HC2;(try clear c1);(try clear p2);(try clear c3);(try clear c3b0);(try clear c3b1);obtain⟨kq,x14_1,rfl,HA,HJ1,⟨mc1,rfl⟩⟩:=hcut
  cases kq with
  |zero=>exact absurd HA.out (by simp[qH.j0])
  |succ kj1=>
   have H:=HA.out;clear HA;simp only[qH.j0]at H
   by_cases c4:x14_1=true
   ·subst c4;rw[if_pos rfl]at H;simp only[Option.some.injEq,Prod.mk.injEq]at H;obtain⟨rfl,rfl⟩:=H;go_wp2
    go_ret2
    exact⟨vB,zz4⟩
   ·replace c4:=bf_ c4;subst c4;rw[if_neg ft_]at H;have H':=am_ H;clear H;go_wp2
    go_loopg [4,5] kj1 (fun kq v4 v5 w'=> ∃(x4_2 x5_2:Int),v4= .int .i64 x4_2∧v5= .int .i64 x5_2∧wA (qH.l0 kq a0 x4_2 x5_2=some (r1,r2))∧wA (kq≤kj1)∧wI w w')
    case atStart=>exact⟨(0),(0),vB,vB,H',⟨Nat.le_refl _⟩,zz4⟩
    case round=>
     clear H';(try clear c1);(try clear p2);(try clear c3);(try clear c3b0);(try clear c3b1);(try clear c4);(try clear p2);obtain⟨x4_2,x5_2,rfl,rfl,HA,HK2,⟨m2,rfl⟩⟩:=hrel
     cases gk with
     |zero=>exact absurd HA.out (by simp[qH.l0])
     |succ k2=>
      have H:=HA.out;clear HA;simp only[qH.l0]at H
      by_cases c5:x5_2<(a0.size:Int)
      ·rw[if_pos c5]at H;have c5b0:=dt_ c5;clear c5
       by_cases c6:0≤x5_2
       ·rw[if_pos c6]at H;have c6b0:=dt_ c6;clear c6;replace H:=be_ H;obtain⟨t129,A80,H⟩:=H;(try dsimp only at H);have A8:=am_ A80;clear A80;replace H:=be_ H;obtain⟨t130,A90,H⟩:=H;(try dsimp only at H);have A9:=am_ A90;clear A90;have HC10:=am_ H;clear H;have p7:0≤(x5_2:Int):=od_ zz5;have q7:x5_2<(a0.size:Int):=od_ zz5;have hx7:=wP a0 x5_2;replace p7:=eq_true p7;replace q7:=eq_true q7;go_upto_if 25 with(first|((with_reducible refine zB (f:=129) rfl ?_);refine jG 24 Tryz.func129 #[.int .u8 (bt a0 x5_2)] (qQ.calls (bt a0 x5_2) t129 _ A8.out) ?_;rintro w' ⟨nd,rfl⟩)|((with_reducible refine zB (f:=79) rfl ?_);refine jG 27 Tryz.func79 #[.int .u8 t129] (jI.calls t129 t130 _ A9.out) ?_;rintro w' ⟨nd,rfl⟩))
        (try simp only[Act.put,List.setIfInBounds_toArray,List.set_cons_zero,List.set_cons_succ]);have H:=HC10.out;clear HC10
        by_cases c11:t130=true
        ·subst c11;rw[if_pos rfl]at H;have H':=am_ H;clear H;go_wp2
         go_roundg k2
         (case measure=>have:=HJ1.out;have:=HK2.out;omega);case rel=>exact⟨(wrap64 ((wrap64 (x4_2*16))+((t129-48)%256))),(wrap64 (x5_2+1)),vB,vB,H',⟨zz98⟩,zz4⟩
        ·replace c11:=bf_ c11;subst c11;rw[if_neg ft_]at H
         by_cases c12:t129≥97
         ·rw[if_pos c12]at H;have c12b0:decide (97≤t129)=true:=dt_ c12;clear c12;(first|rw[c12b0]|(simp only[yC,qD];rw[c12b0])|skip)
          by_cases c13:t129≤102
          ·rw[if_pos c13]at H;have c13b0:=dt_ c13;clear c13;have H':=am_ H;clear H;go_wp2
           go_roundg k2
           (case measure=>have:=HJ1.out;have:=HK2.out;omega);case rel=>exact⟨(wrap64 ((wrap64 ((wrap64 (x4_2*16))+((t129-97)%256)))+10)),(wrap64 (x5_2+1)),vB,vB,H',⟨zz98⟩,zz4⟩
          ·rw[if_neg c13]at H;have c13b0:=df_ c13;clear c13;simp only[Option.some.injEq,Prod.mk.injEq]at H;obtain⟨rfl,rfl⟩:=H;go_wp2
           go_ret2
           exact⟨vB,zz4⟩
         ·rw[if_neg c12]at H;have c12b0:decide (97≤t129)=false:=df_ c12;clear c12;(first|rw[c12b0]|(simp only[yC,qD];rw[c12b0])|skip);simp only[Option.some.injEq,Prod.mk.injEq]at H;obtain⟨rfl,rfl⟩:=H;go_wp2
          go_ret2
          exact⟨vB,zz4⟩
       ·rw[if_neg c6]at H;exact absurd H (by simp)
      ·rw[if_neg c5]at H;have c5b0:=df_ c5;clear c5;simp only[Option.some.injEq,Prod.mk.injEq]at H;obtain⟨rfl,rfl⟩:=H;go_wp2
       go_ret2
       exact⟨vB,zz4⟩
def vK.l0:Nat→ByteArray→Int→Int→Option (Bool)
 |0,_,_,_=>none
 |k+1,x0,x1,x5=>if x5<(x0.size:Int)then(if 0≤x5 then(if(bt x0 x5)=x1 then(some true)else(vK.l0 k x0 x1 (wrap64 (x5+1))))else(none))else(some false)
def vK.f (k:Nat) (a0:ByteArray) (a1:Int):Option (Bool):=vK.l0 k a0 a1 0
theorem vK.calls (k:Nat) (a0:ByteArray) (a1:Int) (r:Bool) (w:World) (h:vK.f k a0 a1=some r):
  Calls Tryz.prog 130 #[.string a0,.int .u8 a1] w fun e w'=>e= .returned (.bool r)∧wI w w':=by
 have H:(vK.l0 k a0 a1 0)=some r:=h;clear h;have H':=am_ H;clear H;go_enter Tryz.func130,Tryz.ntmps130
 go_wp2
 go_loopg [5] k (fun kq v5 w'=> ∃(x5_1:Int),v5= .int .i64 x5_1∧wA (vK.l0 kq a0 a1 x5_1=some r)∧wA (kq≤k)∧wI w w')
 case atStart=>exact⟨(0),vB,H',⟨Nat.le_refl _⟩,zz4⟩
 case round=>
  clear H';(try clear c1);(try clear p2);obtain⟨x5_1,rfl,HA,HK1,⟨m1,rfl⟩⟩:=hrel
  cases gk with
  |zero=>exact absurd HA.out (by simp[vK.l0])
  |succ k1=>
   have H:=HA.out;clear HA;simp only[vK.l0]at H
   by_cases c3:x5_1<(a0.size:Int)
   ·rw[if_pos c3]at H;have c3b0:=dt_ c3;clear c3
    by_cases c4:0≤x5_1
    ·rw[if_pos c4]at H;have c4b0:=dt_ c4;clear c4
     by_cases c6:(bt a0 x5_1)=a1
     ·rw[if_pos c6]at H;have c6b0:((bt a0 x5_1)==a1)=true:=beq_iff_eq.mpr c6;have c6b1:((bt a0 x5_1)!=a1)=false:=bne_eq_false_iff_eq.mpr c6;clear c6;obtain rfl:=si_ H;have p5:0≤(x5_1:Int):=od_ zz5;have q5:x5_1<(a0.size:Int):=od_ zz5;have hx5:=wP a0 x5_1;replace p5:=eq_true p5;replace q5:=eq_true q5;go_wp2
      go_ret;exact⟨vB,zz4⟩
     ·rw[if_neg c6]at H;have c6b0:((bt a0 x5_1)==a1)=false:=beq_eq_false_iff_ne.mpr c6;have c6b1:((bt a0 x5_1)!=a1)=true:=bne_iff_ne.mpr c6;have H':=am_ H;clear H;have p5:0≤(x5_1:Int):=od_ zz5;have q5:x5_1<(a0.size:Int):=od_ zz5;have hx5:=wP a0 x5_1;replace p5:=eq_true p5;replace q5:=eq_true q5;go_wp2
      go_roundg k1
      (case measure=>have:=HK1.out;omega);case rel=>exact⟨(wrap64 (x5_1+1)),vB,H',⟨aJ5⟩,zz4⟩
    ·rw[if_neg c4]at H;exact absurd H (by simp)
   ·rw[if_neg c3]at H;have c3b0:=df_ c3;clear c3;obtain rfl:=si_ H;go_wp2
    go_ret;exact⟨vB,zz4⟩
def kW.f (k:Nat) (a0:Int):Option (Bool):=(qQ.f a0).bind fun t131=>(if t131≥97 then(if t131≤122 then(some true)else((jI.f a0).bind fun t132=>(if t132=true then(some true)else((vK.f k (⟨#[45,46,95,126]⟩:ByteArray) a0).bind fun t133=>(some t133)))))else((jI.f a0).bind fun t134=>(if t134=true then(some true)else((vK.f k (⟨#[45,46,95,126]⟩:ByteArray) a0).bind fun t135=>(some t135)))))
theorem kW.calls (k:Nat) (a0:Int) (r:Bool) (w:World) (h:kW.f k a0=some r):
  Calls Tryz.prog 176 #[.int .u8 a0] w fun e w'=>e= .returned (.bool r)∧wI w w':=by
 have H:((qQ.f a0).bind fun t131=>(if t131≥97 then(if t131≤122 then(some true)else((jI.f a0).bind fun t132=>(if t132=true then(some true)else((vK.f k (⟨#[45,46,95,126]⟩:ByteArray) a0).bind fun t133=>(some t133)))))else((jI.f a0).bind fun t134=>(if t134=true then(some true)else((vK.f k (⟨#[45,46,95,126]⟩:ByteArray) a0).bind fun t135=>(some t135))))))=some r:=h;clear h;replace H:=be_ H;obtain⟨t131,A20,H⟩:=H;(try dsimp only at H);have A2:=am_ A20;clear A20;have HC3:=am_ H;clear H;go_enter Tryz.func176,Tryz.ntmps176
 repeat' (first|(go_big_may;(first|((with_reducible refine zB (f:=129) rfl ?_);refine jG 5 Tryz.func129 #[.int .u8 a0] (qQ.calls a0 t131 _ A2.out) ?_;rintro w' ⟨nd,rfl⟩)))|go_values|go_skip|go_big_skip|go_big_want|((first|(with_reducible refine wE rfl ?_)|(fail_if_success with_reducible refine yE ?_));go_step)|go_upon|simp only[Bool.not_true,Bool.not_false,Bool.true_and,Bool.false_and,Bool.true_or,Bool.false_or]|dsimp only)
 (try simp only[Act.put,List.setIfInBounds_toArray,List.set_cons_zero,List.set_cons_succ]);have H:=HC3.out;clear HC3
 by_cases c4:t131≥97
 ·rw[if_pos c4]at H;have c4b0:decide (97≤t131)=true:=dt_ c4;clear c4;(first|rw[c4b0]|(simp only[yC,qD];rw[c4b0])|skip)
  by_cases c5:t131≤122
  ·rw[if_pos c5]at H;have c5b0:=dt_ c5;clear c5;obtain rfl:=si_ H;go_wp2
   go_ret;exact⟨vB,zz4⟩
  ·rw[if_neg c5]at H;have c5b0:=df_ c5;clear c5;replace H:=be_ H;obtain⟨t132,A60,H⟩:=H;(try dsimp only at H);have A6:=am_ A60;clear A60;have HC7:=am_ H;clear H
   repeat' (first|(go_big_may;(first|(go_at_call 79;(with_reducible refine(jI.calls a0 t132 _ A6.out).mono ?_);rintro e w' ⟨rfl,⟨nd,rfl⟩⟩)))|go_values|go_skip|go_big_skip|go_big_want|((first|(with_reducible refine wE rfl ?_)|(fail_if_success with_reducible refine yE ?_));go_step)|go_upon|simp only[Bool.not_true,Bool.not_false,Bool.true_and,Bool.false_and,Bool.true_or,Bool.false_or]|dsimp only)
   (try simp only[Act.put,List.setIfInBounds_toArray,List.set_cons_zero,List.set_cons_succ]);have H:=HC7.out;clear HC7
   by_cases c8:t132=true
   ·subst c8;rw[if_pos rfl]at H;obtain rfl:=si_ H;go_wp2
    go_ret;exact⟨vB,zz4⟩
   ·replace c8:=bf_ c8;subst c8;rw[if_neg ft_]at H;replace H:=be_ H;obtain⟨t133,A90,H⟩:=H;(try dsimp only at H);have A9:=am_ A90;clear A90;obtain rfl:=si_ H;go_wp2_with (first|(go_at_call 130;(with_reducible refine(vK.calls k (⟨#[45,46,95,126]⟩:ByteArray) a0 t133 _ A9.out).mono ?_);rintro e w' ⟨rfl,⟨nd,rfl⟩⟩))
    go_ret;exact⟨vB,zz4⟩
 ·rw[if_neg c4]at H;have c4b0:decide (97≤t131)=false:=df_ c4;clear c4;(first|rw[c4b0]|(simp only[yC,qD];rw[c4b0])|skip);replace H:=be_ H;obtain⟨t134,A100,H⟩:=H;(try dsimp only at H);have A10:=am_ A100;clear A100;have HC11:=am_ H;clear H
  repeat' (first|(go_big_may;(first|(go_at_call 79;(with_reducible refine(jI.calls a0 t134 _ A10.out).mono ?_);rintro e w' ⟨rfl,⟨nd,rfl⟩⟩)))|go_values|go_skip|go_big_skip|go_big_want|((first|(with_reducible refine wE rfl ?_)|(fail_if_success with_reducible refine yE ?_));go_step)|go_upon|simp only[Bool.not_true,Bool.not_false,Bool.true_and,Bool.false_and,Bool.true_or,Bool.false_or]|dsimp only)
  (try simp only[Act.put,List.setIfInBounds_toArray,List.set_cons_zero,List.set_cons_succ]);have H:=HC11.out;clear HC11
  by_cases c12:t134=true
  ·subst c12;rw[if_pos rfl]at H;obtain rfl:=si_ H;go_wp2
   go_ret;exact⟨vB,zz4⟩
  ·replace c12:=bf_ c12;subst c12;rw[if_neg ft_]at H;replace H:=be_ H;obtain⟨t135,A130,H⟩:=H;(try dsimp only at H);have A13:=am_ A130;clear A130;obtain rfl:=si_ H;go_wp2_with (first|(go_at_call 130;(with_reducible refine(vK.calls k (⟨#[45,46,95,126]⟩:ByteArray) a0 t135 _ A13.out).mono ?_);rintro e w' ⟨rfl,⟨nd,rfl⟩⟩))
   go_ret;exact⟨vB,zz4⟩
def vR.f (a0:Int):Option (Int):=if a0≥97 then(if a0≤122 then(some ((a0-32)%256))else(some a0))else(some a0)
theorem vR.calls (a0 r:Int) (w:World) (h:vR.f a0=some r):
  Calls Tryz.prog 177 #[.int .u8 a0] w fun e w'=>e= .returned (.int .u8 r)∧wI w w':=by
 have H:(if a0≥97 then(if a0≤122 then(some ((a0-32)%256))else(some a0))else(some a0))=some r:=h;clear h
 by_cases c2:a0≥97
 ·rw[if_pos c2]at H;have c2b0:decide (97≤a0)=true:=dt_ c2;clear c2
  by_cases c3:a0≤122
  ·rw[if_pos c3]at H;have c3b0:=dt_ c3;clear c3;obtain rfl:=si_ H;go_enter Tryz.func177,Tryz.ntmps177
   go_wp2
   go_ret;exact⟨vB,zz4⟩
  ·rw[if_neg c3]at H;have c3b0:=df_ c3;clear c3;obtain rfl:=si_ H;go_enter Tryz.func177,Tryz.ntmps177
   go_wp2
   go_ret;exact⟨vB,zz4⟩
 ·rw[if_neg c2]at H;have c2b0:decide (97≤a0)=false:=df_ c2;clear c2;obtain rfl:=si_ H;go_enter Tryz.func177,Tryz.ntmps177
  go_wp2
  go_ret;exact⟨vB,zz4⟩
end Go.Proofs.YteojcbbifacpnaaGreatDoor.GFnExactReadLine
