-- Printed by gen.py and its programs for this claim.
import Derived.Test.YteojcbbifacpnaaGreatDoorGFnExactClosestx0
import Derived.Test.YteojcbbifacpnaaGreatDoorGFnExactClosestx3
import Derived.Test.YteojcbbifacpnaaGreatDoorGFnExactClosestx5
import Derived.Test.YteojcbbifacpnaaGreatDoorGFnExactClosestx11
import Derived.Test.YteojcbbifacpnaaGreatDoorZFnExactClosest
namespace Go.Proofs.YteojcbbifacpnaaGreatDoor.GFnExactClosest
open Go.RowKit Go.Proofs.YteojcbbifacpnaaGreatDoorW.PrintWords Go.Proofs.YteojcbbifacpnaaGreatDoorW.PrintLast Go.Proofs.YteojcbbifacpnaaGreatDoorW.PrintMore Go.Proofs.YteojcbbifacpnaaGreatDoorW.Zs
set_option maxHeartbeats 40000000
set_option maxRecDepth 100000
attribute [local go_sem] max2_int min2_int max_two min_two max_three min_three max_four min_four
set_option linter.unusedVariables false
set_option linter.unusedSimpArgs false
def spec_ReadLabel.f (k:Nat) (a0:ByteArray):Option (ByteArray×Bool):=if(a0.size:Int)=37 then(if 0≤5 then(if 5≤(a0.size:Int)then(if(a0.extract 0 5).toList=([115,104,97,49,58]:List UInt8)then((spec_ReadBase32.f k (a0.extract 5 a0.size)).bind fun bt241=>(some (bt241.1,bt241.2)))else(some ((⟨#[]⟩:ByteArray),false)))else(none))else(none))else(some ((⟨#[]⟩:ByteArray),false))
theorem spec_ReadLabel.calls (k:Nat) (a0 r1:ByteArray) (r2:Bool) (w:World) (h:spec_ReadLabel.f k a0=some (r1,r2)):
  Calls Tryz.prog 31 #[.string a0] w fun e w'=>e= .returned (.tuple #[.string r1,.bool r2])∧Below w.heap.size w w':=by
 have HB:=Aside0.mk (Below.refl w.heap.size w);have H:(if(a0.size:Int)=37 then(if 0≤5 then(if 5≤(a0.size:Int)then(if(a0.extract 0 5).toList=([115,104,97,49,58]:List UInt8)then((spec_ReadBase32.f k (a0.extract 5 a0.size)).bind fun bt241=>(some (bt241.1,bt241.2)))else(some ((⟨#[]⟩:ByteArray),false)))else(none))else(none))else(some ((⟨#[]⟩:ByteArray),false)))=some (r1,r2):=h;clear h
 by_cases c2:(a0.size:Int)=37
 ·rw[if_pos c2]at H;have c2b0:((a0.size:Int)==37)=true:=beq_iff_eq.mpr c2;have c2b1:((a0.size:Int)!=37)=false:=bne_eq_false_iff_eq.mpr c2;clear c2
  by_cases c3:0≤5
  ·rw[if_pos c3]at H;have c3b0:=eq_true c3;have c3b1:decide (0≤5)=true:=decide_eq_true c3;clear c3
   by_cases c4:5≤(a0.size:Int)
   ·rw[if_pos c4]at H;have c4b0:=eq_true c4;have c4b1:decide (5≤(a0.size:Int))=true:=decide_eq_true c4;clear c4
    by_cases c5:(a0.extract 0 5).toList=([115,104,97,49,58]:List UInt8)
    ·rw[if_pos c5]at H;have c5b0:((a0.extract 0 5).toList==([115,104,97,49,58]:List UInt8))=true:=beq_iff_eq.mpr c5;have c5b1:((a0.extract 0 5).toList !=([115,104,97,49,58]:List UInt8))=false:=bne_eq_false_iff_eq.mpr c5;clear c5;have c6b0:=eq_true (of_decide_eq_true zz3:5≤(a0.size:Int));replace H:=Option.bind_eq_some_iff.mp H;obtain⟨⟨t241,t242⟩,A70,H⟩:=H;(try dsimp only at H);have A7:=Aside0.mk A70;clear A70;simp only[Option.some.injEq,Prod.mk.injEq]at H;obtain⟨rfl,rfl⟩:=H;go_enter Tryz.func31,Tryz.ntmps31
     go_wp2_with (first|((with_reducible refine gate_callee (f:=58) rfl ?_);refine goesR_ 14 Tryz.func58 #[.string (a0.extract 5 a0.size)] (spec_ReadBase32.calls k (a0.extract 5 a0.size) t241 t242 _ A7.out) ?_;rintro w8 hb;replace HB:=Aside0.mk (below_step zz0 hb);(try clear hb)))
     go_ret2
     exact⟨zz1,zz0⟩
    ·rw[if_neg c5]at H;have c5b0:((a0.extract 0 5).toList==([115,104,97,49,58]:List UInt8))=false:=beq_eq_false_iff_ne.mpr c5;have c5b1:((a0.extract 0 5).toList !=([115,104,97,49,58]:List UInt8))=true:=bne_iff_ne.mpr c5;simp only[Option.some.injEq,Prod.mk.injEq]at H;obtain⟨rfl,rfl⟩:=H;go_enter Tryz.func31,Tryz.ntmps31
     go_wp2
     go_ret2
     exact⟨zz1,zz0⟩
   ·rw[if_neg c4]at H;exact absurd H (by simp)
  ·rw[if_neg c3]at H;exact absurd H (by simp)
 ·rw[if_neg c2]at H;have c2b0:((a0.size:Int)==37)=false:=beq_eq_false_iff_ne.mpr c2;have c2b1:((a0.size:Int)!=37)=true:=bne_iff_ne.mpr c2;simp only[Option.some.injEq,Prod.mk.injEq]at H;obtain⟨rfl,rfl⟩:=H;go_enter Tryz.func31,Tryz.ntmps31
  go_wp2
  go_ret2
  exact⟨zz1,zz0⟩
def spec_l2time.f (a0:Int):Option (Bool):=if a0≥0 then(some (decide (a0≤253402300799)))else(some false)
theorem spec_l2time.calls (a0:Int) (r:Bool) (w:World) (h:spec_l2time.f a0=some r):
  Calls Tryz.prog 32 #[.int .i64 a0] w fun e w'=>e= .returned (.bool r)∧Drawn0 w w':=by
 have H:(if a0≥0 then(some (decide (a0≤253402300799)))else(some false))=some r:=h;clear h
 by_cases c2:a0≥0
 ·rw[if_pos c2]at H;have c2b0:decide (0≤a0)=true:=decide_eq_true c2;clear c2;obtain rfl:=Option.some.inj H;go_enter Tryz.func32,Tryz.ntmps32
  go_wp2
  go_ret;exact⟨zz2,zz4⟩
 ·rw[if_neg c2]at H;have c2b0:decide (0≤a0)=false:=decide_eq_false c2;clear c2;obtain rfl:=Option.some.inj H;go_enter Tryz.func32,Tryz.ntmps32
  go_wp2
  go_ret;exact⟨zz2,zz4⟩
def spec_l1tchar.f (k:Nat) (a0:Int):Option (Bool):=(spec_l1lower.f a0).bind fun t243=>(if t243≥97 then(if t243≤122 then(some true)else((spec_l1digit.f a0).bind fun t244=>(if t244=true then(some true)else(if a0=96 then(some true)else((spec_l1has.f k (⟨#[33,35,36,37,38,39,42,43,45,46,94,95,124,126]⟩:ByteArray) a0).bind fun t245=>(some t245))))))else((spec_l1digit.f a0).bind fun t246=>(if t246=true then(some true)else(if a0=96 then(some true)else((spec_l1has.f k (⟨#[33,35,36,37,38,39,42,43,45,46,94,95,124,126]⟩:ByteArray) a0).bind fun t247=>(some t247))))))
theorem spec_l1tchar.calls (k:Nat) (a0:Int) (r:Bool) (w:World) (h:spec_l1tchar.f k a0=some r):
  Calls Tryz.prog 93 #[.int .u8 a0] w fun e w'=>e= .returned (.bool r)∧Drawn0 w w':=by
 have H:((spec_l1lower.f a0).bind fun t243=>(if t243≥97 then(if t243≤122 then(some true)else((spec_l1digit.f a0).bind fun t244=>(if t244=true then(some true)else(if a0=96 then(some true)else((spec_l1has.f k (⟨#[33,35,36,37,38,39,42,43,45,46,94,95,124,126]⟩:ByteArray) a0).bind fun t245=>(some t245))))))else((spec_l1digit.f a0).bind fun t246=>(if t246=true then(some true)else(if a0=96 then(some true)else((spec_l1has.f k (⟨#[33,35,36,37,38,39,42,43,45,46,94,95,124,126]⟩:ByteArray) a0).bind fun t247=>(some t247)))))))=some r:=h;clear h;replace H:=Option.bind_eq_some_iff.mp H;obtain⟨t243,A20,H⟩:=H;(try dsimp only at H);have A2:=Aside0.mk A20;clear A20;have HC3:=Aside0.mk H;clear H;go_enter Tryz.func93,Tryz.ntmps93
 repeat' (first|(go_big_may;(first|((with_reducible refine gate_callee (f:=129) rfl ?_);refine goesR_ 5 Tryz.func129 #[.int .u8 a0] (spec_l1lower.calls a0 t243 _ A2.out) ?_;rintro w' ⟨nd,rfl⟩)))|go_values|go_skip|go_big_skip|go_big_want|((first|(with_reducible refine gate_nog rfl ?_)|(fail_if_success with_reducible refine gate_any ?_));go_step)|go_upon|simp only[Bool.not_true,Bool.not_false,Bool.true_and,Bool.false_and,Bool.true_or,Bool.false_or]|dsimp only)
 (try simp only[Act.put,List.setIfInBounds_toArray,List.set_cons_zero,List.set_cons_succ]);have H:=HC3.out;clear HC3
 by_cases c4:t243≥97
 ·rw[if_pos c4]at H;have c4b0:decide (97≤t243)=true:=decide_eq_true c4;clear c4;(first|rw[c4b0]|(simp only[i64_w,i32_w];rw[c4b0])|skip)
  by_cases c5:t243≤122
  ·rw[if_pos c5]at H;have c5b0:decide (t243≤122)=true:=decide_eq_true c5;clear c5;obtain rfl:=Option.some.inj H;go_wp2
   go_ret;exact⟨zz2,zz4⟩
  ·rw[if_neg c5]at H;have c5b0:decide (t243≤122)=false:=decide_eq_false c5;clear c5;replace H:=Option.bind_eq_some_iff.mp H;obtain⟨t244,A60,H⟩:=H;(try dsimp only at H);have A6:=Aside0.mk A60;clear A60;have HC7:=Aside0.mk H;clear H
   repeat' (first|(go_big_may;(first|(go_at_call 79;(with_reducible refine(spec_l1digit.calls a0 t244 _ A6.out).mono ?_);rintro e w' ⟨rfl,⟨nd,rfl⟩⟩)))|go_values|go_skip|go_big_skip|go_big_want|((first|(with_reducible refine gate_nog rfl ?_)|(fail_if_success with_reducible refine gate_any ?_));go_step)|go_upon|simp only[Bool.not_true,Bool.not_false,Bool.true_and,Bool.false_and,Bool.true_or,Bool.false_or]|dsimp only)
   (try simp only[Act.put,List.setIfInBounds_toArray,List.set_cons_zero,List.set_cons_succ]);have H:=HC7.out;clear HC7
   by_cases c8:t244=true
   ·subst c8;rw[if_pos rfl]at H;obtain rfl:=Option.some.inj H;go_wp2
    go_ret;exact⟨zz2,zz4⟩
   ·replace c8:=Bool.eq_false_iff.mpr c8;subst c8;rw[if_neg Bool.false_ne_true]at H
    by_cases c9:a0=96
    ·rw[if_pos c9]at H;have c9b0:(a0==96)=true:=beq_iff_eq.mpr c9;have c9b1:(a0 !=96)=false:=bne_eq_false_iff_eq.mpr c9;clear c9;(first|rw[c9b0]|(simp only[i64_w,i32_w];rw[c9b0])|rw[c9b1]|(rw[c9b2];simp only[Bool.not_true,Bool.not_false])|skip);obtain rfl:=Option.some.inj H;go_wp2
     go_ret;exact⟨zz2,zz4⟩
    ·rw[if_neg c9]at H;have c9b0:(a0==96)=false:=beq_eq_false_iff_ne.mpr c9;have c9b1:(a0 !=96)=true:=bne_iff_ne.mpr c9;(first|rw[c9b0]|(simp only[i64_w,i32_w];rw[c9b0])|rw[c9b1]|(rw[c9b2];simp only[Bool.not_true,Bool.not_false])|skip);replace H:=Option.bind_eq_some_iff.mp H;obtain⟨t245,A100,H⟩:=H;(try dsimp only at H);have A10:=Aside0.mk A100;clear A100;obtain rfl:=Option.some.inj H;go_wp2_with (first|(go_at_call 130;(with_reducible refine(spec_l1has.calls k (⟨#[33,35,36,37,38,39,42,43,45,46,94,95,124,126]⟩:ByteArray) a0 t245 _ A10.out).mono ?_);rintro e w' ⟨rfl,⟨nd,rfl⟩⟩))
     go_ret;exact⟨zz2,zz4⟩
 ·rw[if_neg c4]at H;have c4b0:decide (97≤t243)=false:=decide_eq_false c4;clear c4;(first|rw[c4b0]|(simp only[i64_w,i32_w];rw[c4b0])|skip);replace H:=Option.bind_eq_some_iff.mp H;obtain⟨t246,A110,H⟩:=H;(try dsimp only at H);have A11:=Aside0.mk A110;clear A110;have HC12:=Aside0.mk H;clear H
  repeat' (first|(go_big_may;(first|(go_at_call 79;(with_reducible refine(spec_l1digit.calls a0 t246 _ A11.out).mono ?_);rintro e w' ⟨rfl,⟨nd,rfl⟩⟩)))|go_values|go_skip|go_big_skip|go_big_want|((first|(with_reducible refine gate_nog rfl ?_)|(fail_if_success with_reducible refine gate_any ?_));go_step)|go_upon|simp only[Bool.not_true,Bool.not_false,Bool.true_and,Bool.false_and,Bool.true_or,Bool.false_or]|dsimp only)
  (try simp only[Act.put,List.setIfInBounds_toArray,List.set_cons_zero,List.set_cons_succ]);have H:=HC12.out;clear HC12
  by_cases c13:t246=true
  ·subst c13;rw[if_pos rfl]at H;obtain rfl:=Option.some.inj H;go_wp2
   go_ret;exact⟨zz2,zz4⟩
  ·replace c13:=Bool.eq_false_iff.mpr c13;subst c13;rw[if_neg Bool.false_ne_true]at H
   by_cases c14:a0=96
   ·rw[if_pos c14]at H;have c14b0:(a0==96)=true:=beq_iff_eq.mpr c14;have c14b1:(a0 !=96)=false:=bne_eq_false_iff_eq.mpr c14;clear c14;(first|rw[c14b0]|(simp only[i64_w,i32_w];rw[c14b0])|rw[c14b1]|(rw[c14b2];simp only[Bool.not_true,Bool.not_false])|skip);obtain rfl:=Option.some.inj H;go_wp2
    go_ret;exact⟨zz2,zz4⟩
   ·rw[if_neg c14]at H;have c14b0:(a0==96)=false:=beq_eq_false_iff_ne.mpr c14;have c14b1:(a0 !=96)=true:=bne_iff_ne.mpr c14;(first|rw[c14b0]|(simp only[i64_w,i32_w];rw[c14b0])|rw[c14b1]|(rw[c14b2];simp only[Bool.not_true,Bool.not_false])|skip);replace H:=Option.bind_eq_some_iff.mp H;obtain⟨t247,A150,H⟩:=H;(try dsimp only at H);have A15:=Aside0.mk A150;clear A150;obtain rfl:=Option.some.inj H;go_wp2_with (first|(go_at_call 130;(with_reducible refine(spec_l1has.calls k (⟨#[33,35,36,37,38,39,42,43,45,46,94,95,124,126]⟩:ByteArray) a0 t247 _ A15.out).mono ?_);rintro e w' ⟨rfl,⟨nd,rfl⟩⟩))
    go_ret;exact⟨zz2,zz4⟩
mutual
def spec_Token.j0:Nat→ByteArray→Bool→Option (Bool)
 |0,_,_=>none
 |k+1,x0,x11=>if x11=true then(some false)else(spec_Token.l0 k x0 0)
def spec_Token.l0:Nat→ByteArray→Int→Option (Bool)
 |0,_,_=>none
 |k+1,x0,x3=>if x3<(x0.size:Int)then(if 0≤x3 then((spec_l1tchar.f k (bt x0 x3)).bind fun t248=>(if t248=true then(spec_Token.l0 k x0 (wrap64 (x3+1)))else(some false)))else(none))else(some true)
end
def spec_Token.f (k:Nat) (a0:ByteArray):Option (Bool):=if(a0.size:Int)=0 then(spec_Token.j0 k a0 true)else(spec_Token.j0 k a0 (decide ((a0.size:Int)>4000)))
theorem spec_Token.calls (k:Nat) (a0:ByteArray) (r:Bool) (w:World) (h:spec_Token.f k a0=some r):
  Calls Tryz.prog 59 #[.string a0] w fun e w'=>e= .returned (.bool r)∧Drawn0 w w':=by
 have H:(if(a0.size:Int)=0 then(spec_Token.j0 k a0 true)else(spec_Token.j0 k a0 (decide ((a0.size:Int)>4000))))=some r:=h;clear h;have HC2:=Aside0.mk H;clear H;go_enter Tryz.func59,Tryz.ntmps59
 go_upto_region 1 with(fail)
 go_cut [11] (fun v11 wc=> ∃(kq:Nat) (x11_1:Bool),v11= .bool x11_1∧Aside0 (spec_Token.j0 kq a0 x11_1=some r)∧Aside0 (kq≤k)∧Drawn0 w wc)
 case first=>
  have H:=HC2.out;clear HC2
  by_cases c3:(a0.size:Int)=0
  ·rw[if_pos c3]at H;have c3b0:((a0.size:Int)==0)=true:=beq_iff_eq.mpr c3;have c3b1:((a0.size:Int)!=0)=false:=bne_eq_false_iff_eq.mpr c3;clear c3;(first|rw[c3b0]|(simp only[i64_w,i32_w];rw[c3b0])|rw[c3b1]|(rw[c3b2];simp only[Bool.not_true,Bool.not_false])|skip);have H':=Aside0.mk H;clear H;go_wp2
   go_meet
   case rel=>exact⟨_,(true),zz2,H',⟨zz22⟩,zz4⟩
  ·rw[if_neg c3]at H;have c3b0:((a0.size:Int)==0)=false:=beq_eq_false_iff_ne.mpr c3;have c3b1:((a0.size:Int)!=0)=true:=bne_iff_ne.mpr c3;(first|rw[c3b0]|(simp only[i64_w,i32_w];rw[c3b0])|rw[c3b1]|(rw[c3b2];simp only[Bool.not_true,Bool.not_false])|skip);have H':=Aside0.mk H;clear H;go_wp2
   go_meet
   case rel=>exact⟨_,(decide ((a0.size:Int)>4000)),zz2,H',⟨zz22⟩,zz4⟩
 case rest=>
  clear HC2;(try clear p2);(try clear c3);(try clear c3b0);(try clear c3b1);obtain⟨kq,x11_1,rfl,HA,HJ1,⟨mc1,rfl⟩⟩:=hcut
  cases kq with
  |zero=>exact absurd HA.out (by simp[spec_Token.j0])
  |succ kj1=>
   have H:=HA.out;clear HA;simp only[spec_Token.j0]at H
   by_cases c4:x11_1=true
   ·subst c4;rw[if_pos rfl]at H;obtain rfl:=Option.some.inj H;go_wp2
    go_ret;exact⟨zz2,zz4⟩
   ·replace c4:=Bool.eq_false_iff.mpr c4;subst c4;rw[if_neg Bool.false_ne_true]at H;have H':=Aside0.mk H;clear H;go_wp2
    go_loopg [3] kj1 (fun kq v3 w'=> ∃(x3_2:Int),v3= .int .i64 x3_2∧Aside0 (spec_Token.l0 kq a0 x3_2=some r)∧Aside0 (kq≤kj1)∧Drawn0 w w')
    case atStart=>exact⟨(0),zz2,H',⟨Nat.le_refl _⟩,zz4⟩
    case round=>
     clear H';(try clear c1);(try clear p2);(try clear c3);(try clear c3b0);(try clear c3b1);(try clear c4);(try clear p2);obtain⟨x3_2,rfl,HA,HK2,⟨m2,rfl⟩⟩:=hrel
     cases gk with
     |zero=>exact absurd HA.out (by simp[spec_Token.l0])
     |succ k2=>
      have H:=HA.out;clear HA;simp only[spec_Token.l0]at H
      by_cases c5:x3_2<(a0.size:Int)
      ·rw[if_pos c5]at H;have c5b0:decide (x3_2<(a0.size:Int))=true:=decide_eq_true c5;clear c5
       by_cases c6:0≤x3_2
       ·rw[if_pos c6]at H;have c6b0:decide (0≤x3_2)=true:=decide_eq_true c6;clear c6;replace H:=Option.bind_eq_some_iff.mp H;obtain⟨t248,A80,H⟩:=H;(try dsimp only at H);have A8:=Aside0.mk A80;clear A80;have HC9:=Aside0.mk H;clear H;have p7:0≤(x3_2:Int):=of_decide_eq_true zz3;have q7:x3_2<(a0.size:Int):=of_decide_eq_true zz3;have hx7:=bt_at a0 x3_2;replace p7:=eq_true p7;replace q7:=eq_true q7;go_upto_if 22 with(first|((with_reducible refine gate_callee (f:=93) rfl ?_);refine goesR_ 21 Tryz.func93 #[.int .u8 (bt a0 x3_2)] (spec_l1tchar.calls k2 (bt a0 x3_2) t248 _ A8.out) ?_;rintro w' ⟨nd,rfl⟩))
        (try simp only[Act.put,List.setIfInBounds_toArray,List.set_cons_zero,List.set_cons_succ]);have H:=HC9.out;clear HC9
        by_cases c10:t248=true
        ·subst c10;rw[if_pos rfl]at H;have H':=Aside0.mk H;clear H;go_wp2
         go_roundg k2
         (case measure=>have:=HJ1.out;have:=HK2.out;omega);case rel=>exact⟨(wrap64 (x3_2+1)),zz2,H',⟨zz71⟩,zz4⟩
        ·replace c10:=Bool.eq_false_iff.mpr c10;subst c10;rw[if_neg Bool.false_ne_true]at H;obtain rfl:=Option.some.inj H;go_wp2
         go_ret;exact⟨zz2,zz4⟩
       ·rw[if_neg c6]at H;exact absurd H (by simp)
      ·rw[if_neg c5]at H;have c5b0:decide (x3_2<(a0.size:Int))=false:=decide_eq_false c5;clear c5;obtain rfl:=Option.some.inj H;go_wp2
       go_ret;exact⟨zz2,zz4⟩
def spec_l9method.f (k:Nat) (a0:ByteArray):Option (Bool):=if(a0.size:Int)≤20 then((spec_Token.f k a0).bind fun t249=>(some t249))else(some false)
theorem spec_l9method.calls (k:Nat) (a0:ByteArray) (r:Bool) (w:World) (h:spec_l9method.f k a0=some r):
  Calls Tryz.prog 33 #[.string a0] w fun e w'=>e= .returned (.bool r)∧Drawn0 w w':=by
 have H:(if(a0.size:Int)≤20 then((spec_Token.f k a0).bind fun t249=>(some t249))else(some false))=some r:=h;clear h
 by_cases c2:(a0.size:Int)≤20
 ·rw[if_pos c2]at H;have c2b0:decide ((a0.size:Int)≤20)=true:=decide_eq_true c2;have c2b1:decide (a0.size≤20)=true:=decide_eq_true (by omega);clear c2;replace H:=Option.bind_eq_some_iff.mp H;obtain⟨t249,A30,H⟩:=H;(try dsimp only at H);have A3:=Aside0.mk A30;clear A30;obtain rfl:=Option.some.inj H;go_enter Tryz.func33,Tryz.ntmps33
  go_wp2_with (first|(go_at_call 59;(with_reducible refine(spec_Token.calls k a0 t249 _ A3.out).mono ?_);rintro e w' ⟨rfl,⟨nd,rfl⟩⟩))
  go_ret;exact⟨zz2,zz4⟩
 ·rw[if_neg c2]at H;have c2b0:decide ((a0.size:Int)≤20)=false:=decide_eq_false c2;have c2b1:decide (a0.size≤20)=false:=decide_eq_false (by omega);clear c2;obtain rfl:=Option.some.inj H;go_enter Tryz.func33,Tryz.ntmps33
  go_wp2
  go_ret;exact⟨zz2,zz4⟩
end Go.Proofs.YteojcbbifacpnaaGreatDoor.GFnExactClosest
