-- Printed by gen.py and its programs for this claim.
import Derived.Test.YteojcbbifacpnaaGreatDoorGFnExactReadLinex0
import Derived.Test.YteojcbbifacpnaaGreatDoorGFnExactReadLinex1
import Derived.Test.YteojcbbifacpnaaGreatDoorGFnExactReadLinex3
import Derived.Test.YteojcbbifacpnaaGreatDoorGFnExactReadLinex9
import Derived.Test.YteojcbbifacpnaaGreatDoorZFnExactReadLine
namespace Go.Proofs.YteojcbbifacpnaaGreatDoor.GFnExactReadLine
open Go.RowKit Go.Proofs.YteojcbbifacpnaaGreatDoorW.PrintWords Go.Proofs.YteojcbbifacpnaaGreatDoorW.PrintLast Go.Proofs.YteojcbbifacpnaaGreatDoorW.PrintMore Go.Proofs.YteojcbbifacpnaaGreatDoorW.Zs
set_option maxHeartbeats 40000000
set_option maxRecDepth 100000
attribute [local go_sem] zL qL xN zN qK xK xL jL
set_option linter.unusedVariables false
set_option linter.unusedSimpArgs false
def zU.f (k:Nat) (a0:ByteArray):Option (ByteArray×Bool):=if(a0.size:Int)=37 then(if 0≤5 then(if 5≤(a0.size:Int)then(if(a0.extract 0 5).toList=([115,104,97,49,58]:List UInt8)then((zC.f k (a0.extract 5 a0.size)).bind fun bt215=>(some (bt215.1,bt215.2)))else(some ((⟨#[]⟩:ByteArray),false)))else(none))else(none))else(some ((⟨#[]⟩:ByteArray),false))
theorem zU.calls (k:Nat) (a0 r1:ByteArray) (r2:Bool) (w:World) (h:zU.f k a0=some (r1,r2)):
  Calls Tryz.prog 31 #[.string a0] w fun e w'=>e= .returned (.tuple #[.string r1,.bool r2])∧Below w.heap.size w w':=by
 have HB:=am_ (Below.refl w.heap.size w);have H:(if(a0.size:Int)=37 then(if 0≤5 then(if 5≤(a0.size:Int)then(if(a0.extract 0 5).toList=([115,104,97,49,58]:List UInt8)then((zC.f k (a0.extract 5 a0.size)).bind fun bt215=>(some (bt215.1,bt215.2)))else(some ((⟨#[]⟩:ByteArray),false)))else(none))else(none))else(some ((⟨#[]⟩:ByteArray),false)))=some (r1,r2):=h;clear h
 by_cases c2:(a0.size:Int)=37
 ·rw[if_pos c2]at H;have c2b0:((a0.size:Int)==37)=true:=beq_iff_eq.mpr c2;have c2b1:((a0.size:Int)!=37)=false:=bne_eq_false_iff_eq.mpr c2;clear c2
  by_cases c3:0≤5
  ·rw[if_pos c3]at H;have c3b0:=eq_true c3;have c3b1:=dt_ c3;clear c3
   by_cases c4:5≤(a0.size:Int)
   ·rw[if_pos c4]at H;have c4b0:=eq_true c4;have c4b1:=dt_ c4;clear c4
    by_cases c5:(a0.extract 0 5).toList=([115,104,97,49,58]:List UInt8)
    ·rw[if_pos c5]at H;have c5b0:((a0.extract 0 5).toList==([115,104,97,49,58]:List UInt8))=true:=beq_iff_eq.mpr c5;have c5b1:((a0.extract 0 5).toList !=([115,104,97,49,58]:List UInt8))=false:=bne_eq_false_iff_eq.mpr c5;clear c5;have c6b0:=eq_true (od_ zz5:5≤(a0.size:Int));replace H:=be_ H;obtain⟨⟨t215,t216⟩,A70,H⟩:=H;(try dsimp only at H);have A7:=am_ A70;clear A70;simp only[Option.some.injEq,Prod.mk.injEq]at H;obtain⟨rfl,rfl⟩:=H;go_enter Tryz.func31,Tryz.ntmps31
     go_wp2_with (first|((with_reducible refine zB (f:=58) rfl ?_);refine jG 14 Tryz.func58 #[.string (a0.extract 5 a0.size)] (zC.calls k (a0.extract 5 a0.size) t215 t216 _ A7.out) ?_;rintro w8 hb;replace HB:=am_ (kA zz0 hb);(try clear hb)))
     go_ret2
     exact⟨zz1,zz0⟩
    ·rw[if_neg c5]at H;have c5b0:((a0.extract 0 5).toList==([115,104,97,49,58]:List UInt8))=false:=beq_eq_false_iff_ne.mpr c5;have c5b1:((a0.extract 0 5).toList !=([115,104,97,49,58]:List UInt8))=true:=bne_iff_ne.mpr c5;simp only[Option.some.injEq,Prod.mk.injEq]at H;obtain⟨rfl,rfl⟩:=H;go_enter Tryz.func31,Tryz.ntmps31
     go_wp2
     go_ret2
     exact⟨zz1,zz0⟩
   ·rw[if_neg c4]at H;exact absurd H (by simp)
  ·rw[if_neg c3]at H;exact absurd H (by simp)
 ·rw[if_neg c2]at H;have c2b0:((a0.size:Int)==37)=false:=beq_eq_false_iff_ne.mpr c2;have c2b1:((a0.size:Int)!=37)=true:=bne_iff_ne.mpr c2;simp only[Option.some.injEq,Prod.mk.injEq]at H;obtain⟨rfl,rfl⟩:=H;go_enter Tryz.func31,Tryz.ntmps31
  go_wp2
  go_ret2
  exact⟨zz1,zz0⟩
def zQ.f (a0:Int):Option (Bool):=if a0≥0 then(some (decide (a0≤253402300799)))else(some false)
theorem zQ.calls (a0:Int) (r:Bool) (w:World) (h:zQ.f a0=some r):
  Calls Tryz.prog 32 #[.int .i64 a0] w fun e w'=>e= .returned (.bool r)∧wI w w':=by
 have H:(if a0≥0 then(some (decide (a0≤253402300799)))else(some false))=some r:=h;clear h
 by_cases c2:a0≥0
 ·rw[if_pos c2]at H;have c2b0:decide (0≤a0)=true:=dt_ c2;clear c2;obtain rfl:=si_ H;go_enter Tryz.func32,Tryz.ntmps32
  go_wp2
  go_ret;exact⟨vB,zz4⟩
 ·rw[if_neg c2]at H;have c2b0:decide (0≤a0)=false:=df_ c2;clear c2;obtain rfl:=si_ H;go_enter Tryz.func32,Tryz.ntmps32
  go_wp2
  go_ret;exact⟨vB,zz4⟩
def zX.f (k:Nat) (a0:Int):Option (Bool):=(qQ.f a0).bind fun t217=>(if t217≥97 then(if t217≤122 then(some true)else((jI.f a0).bind fun t218=>(if t218=true then(some true)else(if a0=96 then(some true)else((vK.f k (⟨#[33,35,36,37,38,39,42,43,45,46,94,95,124,126]⟩:ByteArray) a0).bind fun t219=>(some t219))))))else((jI.f a0).bind fun t220=>(if t220=true then(some true)else(if a0=96 then(some true)else((vK.f k (⟨#[33,35,36,37,38,39,42,43,45,46,94,95,124,126]⟩:ByteArray) a0).bind fun t221=>(some t221))))))
theorem zX.calls (k:Nat) (a0:Int) (r:Bool) (w:World) (h:zX.f k a0=some r):
  Calls Tryz.prog 93 #[.int .u8 a0] w fun e w'=>e= .returned (.bool r)∧wI w w':=by
 have H:((qQ.f a0).bind fun t217=>(if t217≥97 then(if t217≤122 then(some true)else((jI.f a0).bind fun t218=>(if t218=true then(some true)else(if a0=96 then(some true)else((vK.f k (⟨#[33,35,36,37,38,39,42,43,45,46,94,95,124,126]⟩:ByteArray) a0).bind fun t219=>(some t219))))))else((jI.f a0).bind fun t220=>(if t220=true then(some true)else(if a0=96 then(some true)else((vK.f k (⟨#[33,35,36,37,38,39,42,43,45,46,94,95,124,126]⟩:ByteArray) a0).bind fun t221=>(some t221)))))))=some r:=h;clear h;replace H:=be_ H;obtain⟨t217,A20,H⟩:=H;(try dsimp only at H);have A2:=am_ A20;clear A20;have HC3:=am_ H;clear H;go_enter Tryz.func93,Tryz.ntmps93
 repeat' (first|(go_big_may;(first|((with_reducible refine zB (f:=129) rfl ?_);refine jG 5 Tryz.func129 #[.int .u8 a0] (qQ.calls a0 t217 _ A2.out) ?_;rintro w' ⟨nd,rfl⟩)))|go_values|go_skip|go_big_skip|go_big_want|((first|(with_reducible refine wE rfl ?_)|(fail_if_success with_reducible refine yE ?_));go_step)|go_upon|simp only[Bool.not_true,Bool.not_false,Bool.true_and,Bool.false_and,Bool.true_or,Bool.false_or]|dsimp only)
 (try simp only[Act.put,List.setIfInBounds_toArray,List.set_cons_zero,List.set_cons_succ]);have H:=HC3.out;clear HC3
 by_cases c4:t217≥97
 ·rw[if_pos c4]at H;have c4b0:decide (97≤t217)=true:=dt_ c4;clear c4;(first|rw[c4b0]|(simp only[yC,qD];rw[c4b0])|skip)
  by_cases c5:t217≤122
  ·rw[if_pos c5]at H;have c5b0:=dt_ c5;clear c5;obtain rfl:=si_ H;go_wp2
   go_ret;exact⟨vB,zz4⟩
  ·rw[if_neg c5]at H;have c5b0:=df_ c5;clear c5;replace H:=be_ H;obtain⟨t218,A60,H⟩:=H;(try dsimp only at H);have A6:=am_ A60;clear A60;have HC7:=am_ H;clear H
   repeat' (first|(go_big_may;(first|(go_at_call 79;(with_reducible refine(jI.calls a0 t218 _ A6.out).mono ?_);rintro e w' ⟨rfl,⟨nd,rfl⟩⟩)))|go_values|go_skip|go_big_skip|go_big_want|((first|(with_reducible refine wE rfl ?_)|(fail_if_success with_reducible refine yE ?_));go_step)|go_upon|simp only[Bool.not_true,Bool.not_false,Bool.true_and,Bool.false_and,Bool.true_or,Bool.false_or]|dsimp only)
   (try simp only[Act.put,List.setIfInBounds_toArray,List.set_cons_zero,List.set_cons_succ]);have H:=HC7.out;clear HC7
   by_cases c8:t218=true
   ·subst c8;rw[if_pos rfl]at H;obtain rfl:=si_ H;go_wp2
    go_ret;exact⟨vB,zz4⟩
   ·replace c8:=bf_ c8;subst c8;rw[if_neg ft_]at H
    by_cases c9:a0=96
    ·rw[if_pos c9]at H;have c9b0:(a0==96)=true:=beq_iff_eq.mpr c9;have c9b1:(a0 !=96)=false:=bne_eq_false_iff_eq.mpr c9;clear c9;(first|rw[c9b0]|(simp only[yC,qD];rw[c9b0])|rw[c9b1]|(rw[c9b2];simp only[Bool.not_true,Bool.not_false])|skip);obtain rfl:=si_ H;go_wp2
     go_ret;exact⟨vB,zz4⟩
    ·rw[if_neg c9]at H;have c9b0:(a0==96)=false:=beq_eq_false_iff_ne.mpr c9;have c9b1:(a0 !=96)=true:=bne_iff_ne.mpr c9;(first|rw[c9b0]|(simp only[yC,qD];rw[c9b0])|rw[c9b1]|(rw[c9b2];simp only[Bool.not_true,Bool.not_false])|skip);replace H:=be_ H;obtain⟨t219,A100,H⟩:=H;(try dsimp only at H);have A10:=am_ A100;clear A100;obtain rfl:=si_ H;go_wp2_with (first|(go_at_call 130;(with_reducible refine(vK.calls k (⟨#[33,35,36,37,38,39,42,43,45,46,94,95,124,126]⟩:ByteArray) a0 t219 _ A10.out).mono ?_);rintro e w' ⟨rfl,⟨nd,rfl⟩⟩))
     go_ret;exact⟨vB,zz4⟩
 ·rw[if_neg c4]at H;have c4b0:decide (97≤t217)=false:=df_ c4;clear c4;(first|rw[c4b0]|(simp only[yC,qD];rw[c4b0])|skip);replace H:=be_ H;obtain⟨t220,A110,H⟩:=H;(try dsimp only at H);have A11:=am_ A110;clear A110;have HC12:=am_ H;clear H
  repeat' (first|(go_big_may;(first|(go_at_call 79;(with_reducible refine(jI.calls a0 t220 _ A11.out).mono ?_);rintro e w' ⟨rfl,⟨nd,rfl⟩⟩)))|go_values|go_skip|go_big_skip|go_big_want|((first|(with_reducible refine wE rfl ?_)|(fail_if_success with_reducible refine yE ?_));go_step)|go_upon|simp only[Bool.not_true,Bool.not_false,Bool.true_and,Bool.false_and,Bool.true_or,Bool.false_or]|dsimp only)
  (try simp only[Act.put,List.setIfInBounds_toArray,List.set_cons_zero,List.set_cons_succ]);have H:=HC12.out;clear HC12
  by_cases c13:t220=true
  ·subst c13;rw[if_pos rfl]at H;obtain rfl:=si_ H;go_wp2
   go_ret;exact⟨vB,zz4⟩
  ·replace c13:=bf_ c13;subst c13;rw[if_neg ft_]at H
   by_cases c14:a0=96
   ·rw[if_pos c14]at H;have c14b0:(a0==96)=true:=beq_iff_eq.mpr c14;have c14b1:(a0 !=96)=false:=bne_eq_false_iff_eq.mpr c14;clear c14;(first|rw[c14b0]|(simp only[yC,qD];rw[c14b0])|rw[c14b1]|(rw[c14b2];simp only[Bool.not_true,Bool.not_false])|skip);obtain rfl:=si_ H;go_wp2
    go_ret;exact⟨vB,zz4⟩
   ·rw[if_neg c14]at H;have c14b0:(a0==96)=false:=beq_eq_false_iff_ne.mpr c14;have c14b1:(a0 !=96)=true:=bne_iff_ne.mpr c14;(first|rw[c14b0]|(simp only[yC,qD];rw[c14b0])|rw[c14b1]|(rw[c14b2];simp only[Bool.not_true,Bool.not_false])|skip);replace H:=be_ H;obtain⟨t221,A150,H⟩:=H;(try dsimp only at H);have A15:=am_ A150;clear A150;obtain rfl:=si_ H;go_wp2_with (first|(go_at_call 130;(with_reducible refine(vK.calls k (⟨#[33,35,36,37,38,39,42,43,45,46,94,95,124,126]⟩:ByteArray) a0 t221 _ A15.out).mono ?_);rintro e w' ⟨rfl,⟨nd,rfl⟩⟩))
    go_ret;exact⟨vB,zz4⟩
mutual
def vL.j0:Nat→ByteArray→Bool→Option (Bool)
 |0,_,_=>none
 |k+1,x0,x11=>if x11=true then(some false)else(vL.l0 k x0 0)
def vL.l0:Nat→ByteArray→Int→Option (Bool)
 |0,_,_=>none
 |k+1,x0,x3=>if x3<(x0.size:Int)then(if 0≤x3 then((zX.f k (bt x0 x3)).bind fun t222=>(if t222=true then(vL.l0 k x0 (wrap64 (x3+1)))else(some false)))else(none))else(some true)
end
def vL.f (k:Nat) (a0:ByteArray):Option (Bool):=if(a0.size:Int)=0 then(vL.j0 k a0 true)else(vL.j0 k a0 (decide ((a0.size:Int)>4000)))
theorem vL.calls (k:Nat) (a0:ByteArray) (r:Bool) (w:World) (h:vL.f k a0=some r):
  Calls Tryz.prog 59 #[.string a0] w fun e w'=>e= .returned (.bool r)∧wI w w':=by
 have H:(if(a0.size:Int)=0 then(vL.j0 k a0 true)else(vL.j0 k a0 (decide ((a0.size:Int)>4000))))=some r:=h;clear h;have HC2:=am_ H;clear H;go_enter Tryz.func59,Tryz.ntmps59
 go_upto_region 1 with(fail)
 go_cut [11] (fun v11 wc=> ∃(kq:Nat) (x11_1:Bool),v11= .bool x11_1∧wA (vL.j0 kq a0 x11_1=some r)∧wA (kq≤k)∧wI w wc)
 case first=>
  have H:=HC2.out;clear HC2
  by_cases c3:(a0.size:Int)=0
  ·rw[if_pos c3]at H;have c3b0:((a0.size:Int)==0)=true:=beq_iff_eq.mpr c3;have c3b1:((a0.size:Int)!=0)=false:=bne_eq_false_iff_eq.mpr c3;clear c3;(first|rw[c3b0]|(simp only[yC,qD];rw[c3b0])|rw[c3b1]|(rw[c3b2];simp only[Bool.not_true,Bool.not_false])|skip);have H':=am_ H;clear H;go_wp2
   go_meet
   case rel=>exact⟨_,(true),vB,H',⟨jT⟩,zz4⟩
  ·rw[if_neg c3]at H;have c3b0:((a0.size:Int)==0)=false:=beq_eq_false_iff_ne.mpr c3;have c3b1:((a0.size:Int)!=0)=true:=bne_iff_ne.mpr c3;(first|rw[c3b0]|(simp only[yC,qD];rw[c3b0])|rw[c3b1]|(rw[c3b2];simp only[Bool.not_true,Bool.not_false])|skip);have H':=am_ H;clear H;go_wp2
   go_meet
   case rel=>exact⟨_,(decide ((a0.size:Int)>4000)),vB,H',⟨jT⟩,zz4⟩
 case rest=>
  clear HC2;(try clear p2);(try clear c3);(try clear c3b0);(try clear c3b1);obtain⟨kq,x11_1,rfl,HA,HJ1,⟨mc1,rfl⟩⟩:=hcut
  cases kq with
  |zero=>exact absurd HA.out (by simp[vL.j0])
  |succ kj1=>
   have H:=HA.out;clear HA;simp only[vL.j0]at H
   by_cases c4:x11_1=true
   ·subst c4;rw[if_pos rfl]at H;obtain rfl:=si_ H;go_wp2
    go_ret;exact⟨vB,zz4⟩
   ·replace c4:=bf_ c4;subst c4;rw[if_neg ft_]at H;have H':=am_ H;clear H;go_wp2
    go_loopg [3] kj1 (fun kq v3 w'=> ∃(x3_2:Int),v3= .int .i64 x3_2∧wA (vL.l0 kq a0 x3_2=some r)∧wA (kq≤kj1)∧wI w w')
    case atStart=>exact⟨(0),vB,H',⟨Nat.le_refl _⟩,zz4⟩
    case round=>
     clear H';(try clear c1);(try clear p2);(try clear c3);(try clear c3b0);(try clear c3b1);(try clear c4);(try clear p2);obtain⟨x3_2,rfl,HA,HK2,⟨m2,rfl⟩⟩:=hrel
     cases gk with
     |zero=>exact absurd HA.out (by simp[vL.l0])
     |succ k2=>
      have H:=HA.out;clear HA;simp only[vL.l0]at H
      by_cases c5:x3_2<(a0.size:Int)
      ·rw[if_pos c5]at H;have c5b0:=dt_ c5;clear c5
       by_cases c6:0≤x3_2
       ·rw[if_pos c6]at H;have c6b0:=dt_ c6;clear c6;replace H:=be_ H;obtain⟨t222,A80,H⟩:=H;(try dsimp only at H);have A8:=am_ A80;clear A80;have HC9:=am_ H;clear H;have p7:0≤(x3_2:Int):=od_ zz5;have q7:x3_2<(a0.size:Int):=od_ zz5;have hx7:=wP a0 x3_2;replace p7:=eq_true p7;replace q7:=eq_true q7;go_upto_if 22 with(first|((with_reducible refine zB (f:=93) rfl ?_);refine jG 21 Tryz.func93 #[.int .u8 (bt a0 x3_2)] (zX.calls k2 (bt a0 x3_2) t222 _ A8.out) ?_;rintro w' ⟨nd,rfl⟩))
        (try simp only[Act.put,List.setIfInBounds_toArray,List.set_cons_zero,List.set_cons_succ]);have H:=HC9.out;clear HC9
        by_cases c10:t222=true
        ·subst c10;rw[if_pos rfl]at H;have H':=am_ H;clear H;go_wp2
         go_roundg k2
         (case measure=>have:=HJ1.out;have:=HK2.out;omega);case rel=>exact⟨(wrap64 (x3_2+1)),vB,H',⟨zz98⟩,zz4⟩
        ·replace c10:=bf_ c10;subst c10;rw[if_neg ft_]at H;obtain rfl:=si_ H;go_wp2
         go_ret;exact⟨vB,zz4⟩
       ·rw[if_neg c6]at H;exact absurd H (by simp)
      ·rw[if_neg c5]at H;have c5b0:=df_ c5;clear c5;obtain rfl:=si_ H;go_wp2
       go_ret;exact⟨vB,zz4⟩
def kQ.f (k:Nat) (a0:ByteArray):Option (Bool):=if(a0.size:Int)≤20 then((vL.f k a0).bind fun t223=>(some t223))else(some false)
theorem kQ.calls (k:Nat) (a0:ByteArray) (r:Bool) (w:World) (h:kQ.f k a0=some r):
  Calls Tryz.prog 33 #[.string a0] w fun e w'=>e= .returned (.bool r)∧wI w w':=by
 have H:(if(a0.size:Int)≤20 then((vL.f k a0).bind fun t223=>(some t223))else(some false))=some r:=h;clear h
 by_cases c2:(a0.size:Int)≤20
 ·rw[if_pos c2]at H;have c2b0:=dt_ c2;have c2b1:decide (a0.size≤20)=true:=dt_ (by omega);clear c2;replace H:=be_ H;obtain⟨t223,A30,H⟩:=H;(try dsimp only at H);have A3:=am_ A30;clear A30;obtain rfl:=si_ H;go_enter Tryz.func33,Tryz.ntmps33
  go_wp2_with (first|(go_at_call 59;(with_reducible refine(vL.calls k a0 t223 _ A3.out).mono ?_);rintro e w' ⟨rfl,⟨nd,rfl⟩⟩))
  go_ret;exact⟨vB,zz4⟩
 ·rw[if_neg c2]at H;have c2b0:=df_ c2;have c2b1:decide (a0.size≤20)=false:=df_ (by omega);clear c2;obtain rfl:=si_ H;go_enter Tryz.func33,Tryz.ntmps33
  go_wp2
  go_ret;exact⟨vB,zz4⟩
end Go.Proofs.YteojcbbifacpnaaGreatDoor.GFnExactReadLine
