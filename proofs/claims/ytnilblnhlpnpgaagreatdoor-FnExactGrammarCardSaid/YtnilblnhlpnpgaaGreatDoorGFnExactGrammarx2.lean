-- Printed by gen.py and its programs for this claim.
import Derived.Test.YtnilblnhlpnpgaaGreatDoorGFnExactGrammarx0
import Derived.Test.YtnilblnhlpnpgaaGreatDoorGFnExactGrammarx1
import Derived.Test.YtnilblnhlpnpgaaGreatDoorZFnExactGrammar
namespace Go.Proofs.YtnilblnhlpnpgaaGreatDoor.GFnExactGrammar
open Go.RowKit Go.Proofs.YtnilblnhlpnpgaaGreatDoorW.PrintWords Go.Proofs.YtnilblnhlpnpgaaGreatDoorW.PrintLast Go.Proofs.YtnilblnhlpnpgaaGreatDoorW.PrintMore Go.Proofs.YtnilblnhlpnpgaaGreatDoorW.Zs
set_option maxHeartbeats 40000000
set_option maxRecDepth 100000
attribute [local go_sem] max2_int min2_int max_two min_two max_three min_three max_four min_four
set_option linter.unusedVariables false
set_option linter.unusedSimpArgs false
def spec_l1tchar.f (k:Nat) (a0:Int):Option (Bool):=(spec_l1lower.f a0).bind fun t105=>(if t105≥97 then(if t105≤122 then(some true)else((spec_l1digit.f a0).bind fun t106=>(if t106=true then(some true)else(if a0=96 then(some true)else((spec_l1has.f k (⟨#[33,35,36,37,38,39,42,43,45,46,94,95,124,126]⟩:ByteArray) a0).bind fun t107=>(some t107))))))else((spec_l1digit.f a0).bind fun t108=>(if t108=true then(some true)else(if a0=96 then(some true)else((spec_l1has.f k (⟨#[33,35,36,37,38,39,42,43,45,46,94,95,124,126]⟩:ByteArray) a0).bind fun t109=>(some t109))))))
theorem spec_l1tchar.calls (k:Nat) (a0:Int) (r:Bool) (w:World) (h:spec_l1tchar.f k a0=some r):
  Calls Tryz.prog 93 #[.int .u8 a0] w fun e w'=>e= .returned (.bool r)∧Drawn0 w w':=by
 have H:((spec_l1lower.f a0).bind fun t105=>(if t105≥97 then(if t105≤122 then(some true)else((spec_l1digit.f a0).bind fun t106=>(if t106=true then(some true)else(if a0=96 then(some true)else((spec_l1has.f k (⟨#[33,35,36,37,38,39,42,43,45,46,94,95,124,126]⟩:ByteArray) a0).bind fun t107=>(some t107))))))else((spec_l1digit.f a0).bind fun t108=>(if t108=true then(some true)else(if a0=96 then(some true)else((spec_l1has.f k (⟨#[33,35,36,37,38,39,42,43,45,46,94,95,124,126]⟩:ByteArray) a0).bind fun t109=>(some t109)))))))=some r:=h;clear h;replace H:=Option.bind_eq_some_iff.mp H;obtain⟨t105,A20,H⟩:=H;(try dsimp only at H);have A2:=Aside0.mk A20;clear A20;have HC3:=Aside0.mk H;clear H;go_enter Tryz.func93,Tryz.ntmps93
 repeat' (first|(go_big_may;(first|((with_reducible refine gate_callee (f:=96) rfl ?_);refine goesR_ 5 Tryz.func96 #[.int .u8 a0] (spec_l1lower.calls a0 t105 _ A2.out) ?_;rintro w' ⟨nd,rfl⟩)))|go_values|go_skip|go_big_skip|go_big_want|((first|(with_reducible refine gate_nog rfl ?_)|(fail_if_success with_reducible refine gate_any ?_));go_step)|go_upon|simp only[Bool.not_true,Bool.not_false,Bool.true_and,Bool.false_and,Bool.true_or,Bool.false_or]|dsimp only)
 (try simp only[Act.put,List.setIfInBounds_toArray,List.set_cons_zero,List.set_cons_succ]);have H:=HC3.out;clear HC3
 by_cases c4:t105≥97
 ·rw[if_pos c4]at H;have c4b0:decide (97≤t105)=true:=decide_eq_true c4;clear c4;(first|rw[c4b0]|(simp only[i64_w,i32_w];rw[c4b0])|skip)
  by_cases c5:t105≤122
  ·rw[if_pos c5]at H;have c5b0:decide (t105≤122)=true:=decide_eq_true c5;clear c5;obtain rfl:=Option.some.inj H;go_wp2
   go_ret;exact⟨zz3,zz5⟩
  ·rw[if_neg c5]at H;have c5b0:decide (t105≤122)=false:=decide_eq_false c5;clear c5;replace H:=Option.bind_eq_some_iff.mp H;obtain⟨t106,A60,H⟩:=H;(try dsimp only at H);have A6:=Aside0.mk A60;clear A60;have HC7:=Aside0.mk H;clear H
   repeat' (first|(go_big_may;(first|(go_at_call 100;(with_reducible refine(spec_l1digit.calls a0 t106 _ A6.out).mono ?_);rintro e w' ⟨rfl,⟨nd,rfl⟩⟩)))|go_values|go_skip|go_big_skip|go_big_want|((first|(with_reducible refine gate_nog rfl ?_)|(fail_if_success with_reducible refine gate_any ?_));go_step)|go_upon|simp only[Bool.not_true,Bool.not_false,Bool.true_and,Bool.false_and,Bool.true_or,Bool.false_or]|dsimp only)
   (try simp only[Act.put,List.setIfInBounds_toArray,List.set_cons_zero,List.set_cons_succ]);have H:=HC7.out;clear HC7
   by_cases c8:t106=true
   ·subst c8;rw[if_pos rfl]at H;obtain rfl:=Option.some.inj H;go_wp2
    go_ret;exact⟨zz3,zz5⟩
   ·replace c8:=Bool.eq_false_iff.mpr c8;subst c8;rw[if_neg Bool.false_ne_true]at H
    by_cases c9:a0=96
    ·rw[if_pos c9]at H;have c9b0:(a0==96)=true:=beq_iff_eq.mpr c9;have c9b1:(a0 !=96)=false:=bne_eq_false_iff_eq.mpr c9;clear c9;(first|rw[c9b0]|(simp only[i64_w,i32_w];rw[c9b0])|rw[c9b1]|(rw[c9b2];simp only[Bool.not_true,Bool.not_false])|skip);obtain rfl:=Option.some.inj H;go_wp2
     go_ret;exact⟨zz3,zz5⟩
    ·rw[if_neg c9]at H;have c9b0:(a0==96)=false:=beq_eq_false_iff_ne.mpr c9;have c9b1:(a0 !=96)=true:=bne_iff_ne.mpr c9;(first|rw[c9b0]|(simp only[i64_w,i32_w];rw[c9b0])|rw[c9b1]|(rw[c9b2];simp only[Bool.not_true,Bool.not_false])|skip);replace H:=Option.bind_eq_some_iff.mp H;obtain⟨t107,A100,H⟩:=H;(try dsimp only at H);have A10:=Aside0.mk A100;clear A100;obtain rfl:=Option.some.inj H;go_wp2_with (first|(go_at_call 126;(with_reducible refine(spec_l1has.calls k (⟨#[33,35,36,37,38,39,42,43,45,46,94,95,124,126]⟩:ByteArray) a0 t107 _ A10.out).mono ?_);rintro e w' ⟨rfl,⟨nd,rfl⟩⟩))
     go_ret;exact⟨zz3,zz5⟩
 ·rw[if_neg c4]at H;have c4b0:decide (97≤t105)=false:=decide_eq_false c4;clear c4;(first|rw[c4b0]|(simp only[i64_w,i32_w];rw[c4b0])|skip);replace H:=Option.bind_eq_some_iff.mp H;obtain⟨t108,A110,H⟩:=H;(try dsimp only at H);have A11:=Aside0.mk A110;clear A110;have HC12:=Aside0.mk H;clear H
  repeat' (first|(go_big_may;(first|(go_at_call 100;(with_reducible refine(spec_l1digit.calls a0 t108 _ A11.out).mono ?_);rintro e w' ⟨rfl,⟨nd,rfl⟩⟩)))|go_values|go_skip|go_big_skip|go_big_want|((first|(with_reducible refine gate_nog rfl ?_)|(fail_if_success with_reducible refine gate_any ?_));go_step)|go_upon|simp only[Bool.not_true,Bool.not_false,Bool.true_and,Bool.false_and,Bool.true_or,Bool.false_or]|dsimp only)
  (try simp only[Act.put,List.setIfInBounds_toArray,List.set_cons_zero,List.set_cons_succ]);have H:=HC12.out;clear HC12
  by_cases c13:t108=true
  ·subst c13;rw[if_pos rfl]at H;obtain rfl:=Option.some.inj H;go_wp2
   go_ret;exact⟨zz3,zz5⟩
  ·replace c13:=Bool.eq_false_iff.mpr c13;subst c13;rw[if_neg Bool.false_ne_true]at H
   by_cases c14:a0=96
   ·rw[if_pos c14]at H;have c14b0:(a0==96)=true:=beq_iff_eq.mpr c14;have c14b1:(a0 !=96)=false:=bne_eq_false_iff_eq.mpr c14;clear c14;(first|rw[c14b0]|(simp only[i64_w,i32_w];rw[c14b0])|rw[c14b1]|(rw[c14b2];simp only[Bool.not_true,Bool.not_false])|skip);obtain rfl:=Option.some.inj H;go_wp2
    go_ret;exact⟨zz3,zz5⟩
   ·rw[if_neg c14]at H;have c14b0:(a0==96)=false:=beq_eq_false_iff_ne.mpr c14;have c14b1:(a0 !=96)=true:=bne_iff_ne.mpr c14;(first|rw[c14b0]|(simp only[i64_w,i32_w];rw[c14b0])|rw[c14b1]|(rw[c14b2];simp only[Bool.not_true,Bool.not_false])|skip);replace H:=Option.bind_eq_some_iff.mp H;obtain⟨t109,A150,H⟩:=H;(try dsimp only at H);have A15:=Aside0.mk A150;clear A150;obtain rfl:=Option.some.inj H;go_wp2_with (first|(go_at_call 126;(with_reducible refine(spec_l1has.calls k (⟨#[33,35,36,37,38,39,42,43,45,46,94,95,124,126]⟩:ByteArray) a0 t109 _ A15.out).mono ?_);rintro e w' ⟨rfl,⟨nd,rfl⟩⟩))
    go_ret;exact⟨zz3,zz5⟩
mutual
def spec_Token.j0:Nat→ByteArray→Bool→Option (Bool)
 |0,_,_=>none
 |k+1,x0,x11=>if x11=true then(some false)else(spec_Token.l0 k x0 0)
def spec_Token.l0:Nat→ByteArray→Int→Option (Bool)
 |0,_,_=>none
 |k+1,x0,x3=>if x3<(x0.size:Int)then(if 0≤x3 then((spec_l1tchar.f k (bt x0 x3)).bind fun t110=>(if t110=true then(spec_Token.l0 k x0 (wrap64 (x3+1)))else(some false)))else(none))else(some true)
end
def spec_Token.f (k:Nat) (a0:ByteArray):Option (Bool):=if(a0.size:Int)=0 then(spec_Token.j0 k a0 true)else(spec_Token.j0 k a0 (decide ((a0.size:Int)>4000)))
theorem spec_Token.calls (k:Nat) (a0:ByteArray) (r:Bool) (w:World) (h:spec_Token.f k a0=some r):
  Calls Tryz.prog 46 #[.string a0] w fun e w'=>e= .returned (.bool r)∧Drawn0 w w':=by
 have H:(if(a0.size:Int)=0 then(spec_Token.j0 k a0 true)else(spec_Token.j0 k a0 (decide ((a0.size:Int)>4000))))=some r:=h;clear h;have HC2:=Aside0.mk H;clear H;go_enter Tryz.func46,Tryz.ntmps46
 go_upto_region 1 with(fail)
 go_cut [11] (fun v11 wc=> ∃(kq:Nat) (x11_1:Bool),v11= .bool x11_1∧Aside0 (spec_Token.j0 kq a0 x11_1=some r)∧Aside0 (kq≤k)∧Drawn0 w wc)
 case first=>
  have H:=HC2.out;clear HC2
  by_cases c3:(a0.size:Int)=0
  ·rw[if_pos c3]at H;have c3b0:((a0.size:Int)==0)=true:=beq_iff_eq.mpr c3;have c3b1:((a0.size:Int)!=0)=false:=bne_eq_false_iff_eq.mpr c3;clear c3;(first|rw[c3b0]|(simp only[i64_w,i32_w];rw[c3b0])|rw[c3b1]|(rw[c3b2];simp only[Bool.not_true,Bool.not_false])|skip);have H':=Aside0.mk H;clear H;go_wp2
   go_meet
   case rel=>exact⟨_,(true),zz3,H',⟨zz58⟩,zz5⟩
  ·rw[if_neg c3]at H;have c3b0:((a0.size:Int)==0)=false:=beq_eq_false_iff_ne.mpr c3;have c3b1:((a0.size:Int)!=0)=true:=bne_iff_ne.mpr c3;(first|rw[c3b0]|(simp only[i64_w,i32_w];rw[c3b0])|rw[c3b1]|(rw[c3b2];simp only[Bool.not_true,Bool.not_false])|skip);have H':=Aside0.mk H;clear H;go_wp2
   go_meet
   case rel=>exact⟨_,(decide ((a0.size:Int)>4000)),zz3,H',⟨zz58⟩,zz5⟩
 case rest=>
  clear HC2;(try clear p2);(try clear c3);(try clear c3b0);(try clear c3b1);obtain⟨kq,x11_1,rfl,HA,HJ1,⟨mc1,rfl⟩⟩:=hcut
  cases kq with
  |zero=>exact absurd HA.out (by simp[spec_Token.j0])
  |succ kj1=>
   have H:=HA.out;clear HA;simp only[spec_Token.j0]at H
   by_cases c4:x11_1=true
   ·subst c4;rw[if_pos rfl]at H;obtain rfl:=Option.some.inj H;go_wp2
    go_ret;exact⟨zz3,zz5⟩
   ·replace c4:=Bool.eq_false_iff.mpr c4;subst c4;rw[if_neg Bool.false_ne_true]at H;have H':=Aside0.mk H;clear H;go_wp2
    go_loopg [3] kj1 (fun kq v3 w'=> ∃(x3_2:Int),v3= .int .i64 x3_2∧Aside0 (spec_Token.l0 kq a0 x3_2=some r)∧Aside0 (kq≤kj1)∧Drawn0 w w')
    case atStart=>exact⟨(0),zz3,H',⟨Nat.le_refl _⟩,zz5⟩
    case round=>
     clear H';(try clear c1);(try clear p2);(try clear c3);(try clear c3b0);(try clear c3b1);(try clear c4);(try clear p2);obtain⟨x3_2,rfl,HA,HK2,⟨m2,rfl⟩⟩:=hrel
     cases gk with
     |zero=>exact absurd HA.out (by simp[spec_Token.l0])
     |succ k2=>
      have H:=HA.out;clear HA;simp only[spec_Token.l0]at H
      by_cases c5:x3_2<(a0.size:Int)
      ·rw[if_pos c5]at H;have c5b0:decide (x3_2<(a0.size:Int))=true:=decide_eq_true c5;clear c5
       by_cases c6:0≤x3_2
       ·rw[if_pos c6]at H;have c6b0:decide (0≤x3_2)=true:=decide_eq_true c6;clear c6;replace H:=Option.bind_eq_some_iff.mp H;obtain⟨t110,A80,H⟩:=H;(try dsimp only at H);have A8:=Aside0.mk A80;clear A80;have HC9:=Aside0.mk H;clear H;have p7:0≤(x3_2:Int):=of_decide_eq_true zz7;have q7:x3_2<(a0.size:Int):=of_decide_eq_true zz7;have hx7:=bt_at a0 x3_2;replace p7:=eq_true p7;replace q7:=eq_true q7;go_upto_if 22 with(first|((with_reducible refine gate_callee (f:=93) rfl ?_);refine goesR_ 21 Tryz.func93 #[.int .u8 (bt a0 x3_2)] (spec_l1tchar.calls k2 (bt a0 x3_2) t110 _ A8.out) ?_;rintro w' ⟨nd,rfl⟩))
        (try simp only[Act.put,List.setIfInBounds_toArray,List.set_cons_zero,List.set_cons_succ]);have H:=HC9.out;clear HC9
        by_cases c10:t110=true
        ·subst c10;rw[if_pos rfl]at H;have H':=Aside0.mk H;clear H;go_wp2
         go_roundg k2
         (case measure=>have:=HJ1.out;have:=HK2.out;omega);case rel=>exact⟨(wrap64 (x3_2+1)),zz3,H',⟨by have:=HJ1.out;have:=HK2.out;omega⟩,zz5⟩
        ·replace c10:=Bool.eq_false_iff.mpr c10;subst c10;rw[if_neg Bool.false_ne_true]at H;obtain rfl:=Option.some.inj H;go_wp2
         go_ret;exact⟨zz3,zz5⟩
       ·rw[if_neg c6]at H;exact absurd H (by simp)
      ·rw[if_neg c5]at H;have c5b0:decide (x3_2<(a0.size:Int))=false:=decide_eq_false c5;clear c5;obtain rfl:=Option.some.inj H;go_wp2
       go_ret;exact⟨zz3,zz5⟩
def spec_l1white.f (a0:Int):Option (Bool):=if a0=32 then(some true)else(some (a0==9))
theorem spec_l1white.calls (a0:Int) (r:Bool) (w:World) (h:spec_l1white.f a0=some r):
  Calls Tryz.prog 94 #[.int .u8 a0] w fun e w'=>e= .returned (.bool r)∧Drawn0 w w':=by
 have H:(if a0=32 then(some true)else(some (a0==9)))=some r:=h;clear h
 by_cases c2:a0=32
 ·rw[if_pos c2]at H;have c2b0:(a0==32)=true:=beq_iff_eq.mpr c2;have c2b1:(a0 !=32)=false:=bne_eq_false_iff_eq.mpr c2;clear c2;obtain rfl:=Option.some.inj H;go_enter Tryz.func94,Tryz.ntmps94
  go_wp2
  go_ret;exact⟨zz3,zz5⟩
 ·rw[if_neg c2]at H;have c2b0:(a0==32)=false:=beq_eq_false_iff_ne.mpr c2;have c2b1:(a0 !=32)=true:=bne_iff_ne.mpr c2;obtain rfl:=Option.some.inj H;go_enter Tryz.func94,Tryz.ntmps94
  go_wp2
  go_ret;exact⟨zz3,zz5⟩
mutual
def spec_Trim.j1:Nat→ByteArray→Int→Option (ByteArray)
 |0,_,_=>none
 |k+1,x0,x3=>spec_Trim.l1 k x0 x3 (x0.size:Int)
def spec_Trim.l1:Nat→ByteArray→Int→Int→Option (ByteArray)
 |0,_,_,_=>none
 |k+1,x0,x3,x4=>if x4>x3 then(if 0≤(wrap64 (x4-1))then(if(wrap64 (x4-1))<(x0.size:Int)then((spec_l1white.f (bt x0 (wrap64 (x4-1)))).bind fun t112=>(if t112=true then(spec_Trim.l1 k x0 x3 (wrap64 (x4-1)))else(if 0≤x3 then(if x3≤x4 then(if x4≤(x0.size:Int)then(some (x0.extract (x3:Int).toNat (x4:Int).toNat))else(none))else(none))else(none))))else(none))else(none))else(if 0≤x3 then(if x3≤x4 then(if x4≤(x0.size:Int)then(some (x0.extract (x3:Int).toNat (x4:Int).toNat))else(none))else(none))else(none))
def spec_Trim.l0:Nat→ByteArray→Int→Option (ByteArray)
 |0,_,_=>none
 |k+1,x0,x3=>if x3<(x0.size:Int)then(if 0≤x3 then((spec_l1white.f (bt x0 x3)).bind fun t111=>(if t111=true then(spec_Trim.l0 k x0 (wrap64 (x3+1)))else(spec_Trim.j1 k x0 x3)))else(none))else(spec_Trim.j1 k x0 x3)
end
def spec_Trim.f (k:Nat) (a0:ByteArray):Option (ByteArray):=spec_Trim.l0 k a0 0
theorem spec_Trim.calls (k:Nat) (a0 r:ByteArray) (w:World) (h:spec_Trim.f k a0=some r):
  Calls Tryz.prog 47 #[.string a0] w fun e w'=>e= .returned (.string r)∧Drawn0 w w':=by
 have H:(spec_Trim.l0 k a0 0)=some r:=h;clear h;have HC2:=Aside0.mk H;clear H;go_enter Tryz.func47,Tryz.ntmps47
 go_upto_block 0 with(fail)
 go_cut [3] (fun v3 wc=> ∃(kq:Nat) (x3_1:Int),v3= .int .i64 x3_1∧Aside0 (spec_Trim.j1 kq a0 x3_1=some r)∧Aside0 (kq≤k)∧Drawn0 w wc)
 case first=>
  have H:=HC2.out;clear HC2;have H':=Aside0.mk H;clear H;go_wp2
  go_loopg [3] k (fun kq v3 w'=> ∃(x3_1:Int),v3= .int .i64 x3_1∧Aside0 (spec_Trim.l0 kq a0 x3_1=some r)∧Aside0 (kq≤k)∧Drawn0 w w')
  case atStart=>exact⟨(0),zz3,H',⟨Nat.le_refl _⟩,zz5⟩
  case round=>
   clear H';(try clear p2);obtain⟨x3_1,rfl,HA,HK1,⟨m1,rfl⟩⟩:=hrel
   cases gk with
   |zero=>exact absurd HA.out (by simp[spec_Trim.l0])
   |succ k1=>
    have H:=HA.out;clear HA;simp only[spec_Trim.l0]at H
    by_cases c3:x3_1<(a0.size:Int)
    ·rw[if_pos c3]at H;have c3b0:decide (x3_1<(a0.size:Int))=true:=decide_eq_true c3;clear c3;(first|rw[c3b0]|(simp only[i64_w,i32_w];rw[c3b0])|skip)
     by_cases c4:0≤x3_1
     ·rw[if_pos c4]at H;have c4b0:decide (0≤x3_1)=true:=decide_eq_true c4;clear c4;replace H:=Option.bind_eq_some_iff.mp H;obtain⟨t111,A60,H⟩:=H;(try dsimp only at H);have A6:=Aside0.mk A60;clear A60
      by_cases c7:t111=true
      ·subst c7;rw[if_pos rfl]at H;have H':=Aside0.mk H;clear H;have p5:0≤(x3_1:Int):=of_decide_eq_true zz7;have q5:x3_1<(a0.size:Int):=of_decide_eq_true zz7;have hx5:=bt_at a0 x3_1;replace p5:=eq_true p5;replace q5:=eq_true q5;go_wp2_with (first|(go_at_call 94;(with_reducible refine(spec_l1white.calls (bt a0 x3_1) true _ A6.out).mono ?_);rintro e w' ⟨rfl,⟨nd,rfl⟩⟩))
       go_roundg k1
       (case measure=>have:=HK1.out;omega);case rel=>exact⟨(wrap64 (x3_1+1)),zz3,H',⟨zz72⟩,zz5⟩
      ·replace c7:=Bool.eq_false_iff.mpr c7;subst c7;rw[if_neg Bool.false_ne_true]at H;have H':=Aside0.mk H;clear H;have p5:0≤(x3_1:Int):=of_decide_eq_true zz7;have q5:x3_1<(a0.size:Int):=of_decide_eq_true zz7;have hx5:=bt_at a0 x3_1;replace p5:=eq_true p5;replace q5:=eq_true q5;go_wp2_with (first|(go_at_call 94;(with_reducible refine(spec_l1white.calls (bt a0 x3_1) false _ A6.out).mono ?_);rintro e w' ⟨rfl,⟨nd,rfl⟩⟩))
       go_meet
       case rel=>exact⟨_,(x3_1),zz3,H',⟨zz111⟩,zz5⟩
     ·rw[if_neg c4]at H;exact absurd H (by simp)
    ·rw[if_neg c3]at H;have c3b0:decide (x3_1<(a0.size:Int))=false:=decide_eq_false c3;clear c3;(first|rw[c3b0]|(simp only[i64_w,i32_w];rw[c3b0])|skip);have H':=Aside0.mk H;clear H;go_wp2
     go_meet
     case rel=>exact⟨_,(x3_1),zz3,H',⟨zz111⟩,zz5⟩
 case rest=>
  clear HC2;(try clear p2);(try clear c3);(try clear c3b0);(try clear c4);(try clear c4b0);(try clear p5);(try clear q5);(try clear hx5);(try clear p6);(try clear c7);(try clear p2);(try clear p5);(try clear q5);obtain⟨kq,x3_1,rfl,HA,HJ1,⟨mc1,rfl⟩⟩:=hcut
  cases kq with
  |zero=>exact absurd HA.out (by simp[spec_Trim.j1])
  |succ kj1=>
   have H:=HA.out;clear HA;simp only[spec_Trim.j1]at H;have H':=Aside0.mk H;clear H;go_wp2
   go_loopg [4] kj1 (fun kq v4 w'=> ∃(x4_2:Int),v4= .int .i64 x4_2∧Aside0 (spec_Trim.l1 kq a0 x3_1 x4_2=some r)∧Aside0 (kq≤kj1)∧Drawn0 w w')
   case atStart=>exact⟨((a0.size:Int)),zz3,H',⟨Nat.le_refl _⟩,zz5⟩
   case round=>
    clear H';(try clear c1);(try clear p2);(try clear c3);(try clear c3b0);(try clear c4);(try clear c4b0);(try clear p5);(try clear q5);(try clear hx5);(try clear p6);(try clear c7);(try clear p2);(try clear p5);(try clear p6);(try clear q5);obtain⟨x4_2,rfl,HA,HK2,⟨m2,rfl⟩⟩:=hrel
    cases gk with
    |zero=>exact absurd HA.out (by simp[spec_Trim.l1])
    |succ k2=>
     have H:=HA.out;clear HA;simp only[spec_Trim.l1]at H
     by_cases c8:x4_2>x3_1
     ·rw[if_pos c8]at H;have c8b0:decide (x3_1<x4_2)=true:=decide_eq_true c8;clear c8;obtain⟨ji9,hji9⟩: ∃j_:Int,(wrap64 (x4_2-1))=j_:=⟨_,rfl⟩;replace H:(if 0≤(ji9)then(if(ji9)<(a0.size:Int)then((spec_l1white.f (bt a0 (ji9))).bind fun t112=>(if t112=true then(spec_Trim.l1 k2 a0 x3_1 ji9)else(if 0≤x3_1 then(if x3_1≤x4_2 then(if x4_2≤(a0.size:Int)then(some (a0.extract (x3_1:Int).toNat (x4_2:Int).toNat))else(none))else(none))else(none))))else(none))else(none))=some r:=by first|(rw[hji9]at H;exact H)|(simp only[hji9]at H ⊢;exact H)
      have hji9w:(IntKind.i64.wrap (x4_2-1))=ji9:=(i64_w _).trans hji9
      by_cases c10:0≤(ji9)
      ·rw[if_pos c10]at H;have c10b0:decide (0≤(ji9))=true:=decide_eq_true c10;clear c10
       by_cases c11:(ji9)<(a0.size:Int)
       ·rw[if_pos c11]at H;have c11b0:decide ((ji9)<(a0.size:Int))=true:=decide_eq_true c11;clear c11;replace H:=Option.bind_eq_some_iff.mp H;obtain⟨t112,A130,H⟩:=H;(try dsimp only at H);have A13:=Aside0.mk A130;clear A130
        by_cases c14:t112=true
        ·subst c14;rw[if_pos rfl]at H;have H':=Aside0.mk H;clear H;have p12:0≤((ji9):Int):=of_decide_eq_true zz7;have q12:(ji9)<(a0.size:Int):=of_decide_eq_true zz7;have hx12:=bt_at a0 (ji9);replace p12:=eq_true p12;replace q12:=eq_true q12;go_wp2_with (first|(go_at_call 94;(with_reducible refine(spec_l1white.calls (bt a0 (ji9)) true _ A13.out).mono ?_);rintro e w' ⟨rfl,⟨nd,rfl⟩⟩))
         go_roundg k2
         (case measure=>have:=HJ1.out;have:=HK2.out;omega);case rel=>exact⟨(ji9),(by first|rfl|(simp;done)|(simp only[←hji9]<;>(first|rfl|simp))|(simp[*];done)),H',⟨by have:=HJ1.out;have:=HK2.out;omega⟩,zz5⟩
        ·replace c14:=Bool.eq_false_iff.mpr c14;subst c14;rw[if_neg Bool.false_ne_true]at H
         by_cases c15:0≤x3_1
         ·rw[if_pos c15]at H;have c15b0:=eq_true c15;have c15b1:decide (0≤x3_1)=true:=decide_eq_true c15;clear c15
          by_cases c16:x3_1≤x4_2
          ·rw[if_pos c16]at H;have c16b0:=eq_true c16;have c16b1:decide (x3_1≤x4_2)=true:=decide_eq_true c16;clear c16
           by_cases c17:x4_2≤(a0.size:Int)
           ·rw[if_pos c17]at H;have c17b0:=eq_true c17;have c17b1:decide (x4_2≤(a0.size:Int))=true:=decide_eq_true c17;clear c17;obtain rfl:=Option.some.inj H;have p12:0≤((ji9):Int):=of_decide_eq_true zz7;have q12:(ji9)<(a0.size:Int):=of_decide_eq_true zz7;have hx12:=bt_at a0 (ji9);replace p12:=eq_true p12;replace q12:=eq_true q12;go_wp2_with (first|(go_at_call 94;(with_reducible refine(spec_l1white.calls (bt a0 (ji9)) false _ A13.out).mono ?_);rintro e w' ⟨rfl,⟨nd,rfl⟩⟩))
            go_ret;exact⟨by first|rfl|(simp;done)|(simp only[←hji9]<;>(first|rfl|simp))|(simp[*];done),zz5⟩
           ·rw[if_neg c17]at H;exact absurd H (by simp)
          ·rw[if_neg c16]at H;exact absurd H (by simp)
         ·rw[if_neg c15]at H;exact absurd H (by simp)
       ·rw[if_neg c11]at H;exact absurd H (by simp)
      ·rw[if_neg c10]at H;exact absurd H (by simp)
     ·rw[if_neg c8]at H;have c8b0:decide (x3_1<x4_2)=false:=decide_eq_false c8;clear c8
      by_cases c18:0≤x3_1
      ·rw[if_pos c18]at H;have c18b0:=eq_true c18;have c18b1:decide (0≤x3_1)=true:=decide_eq_true c18;clear c18
       by_cases c19:x3_1≤x4_2
       ·rw[if_pos c19]at H;have c19b0:=eq_true c19;have c19b1:decide (x3_1≤x4_2)=true:=decide_eq_true c19;clear c19
        by_cases c20:x4_2≤(a0.size:Int)
        ·rw[if_pos c20]at H;have c20b0:=eq_true c20;have c20b1:decide (x4_2≤(a0.size:Int))=true:=decide_eq_true c20;clear c20;obtain rfl:=Option.some.inj H;go_wp2
         go_ret;exact⟨zz3,zz5⟩
        ·rw[if_neg c20]at H;exact absurd H (by simp)
       ·rw[if_neg c19]at H;exact absurd H (by simp)
      ·rw[if_neg c18]at H;exact absurd H (by simp)
def spec_l1plain.f (a0:Int):Option (Bool):=if a0=9 then(some true)else(if a0≥32 then(some (a0 !=127))else(some false))
theorem spec_l1plain.calls (a0:Int) (r:Bool) (w:World) (h:spec_l1plain.f a0=some r):
  Calls Tryz.prog 95 #[.int .u8 a0] w fun e w'=>e= .returned (.bool r)∧Drawn0 w w':=by
 have H:(if a0=9 then(some true)else(if a0≥32 then(some (a0 !=127))else(some false)))=some r:=h;clear h
 by_cases c2:a0=9
 ·rw[if_pos c2]at H;have c2b0:(a0==9)=true:=beq_iff_eq.mpr c2;have c2b1:(a0 !=9)=false:=bne_eq_false_iff_eq.mpr c2;clear c2;obtain rfl:=Option.some.inj H;go_enter Tryz.func95,Tryz.ntmps95
  go_wp2
  go_ret;exact⟨zz3,zz5⟩
 ·rw[if_neg c2]at H;have c2b0:(a0==9)=false:=beq_eq_false_iff_ne.mpr c2;have c2b1:(a0 !=9)=true:=bne_iff_ne.mpr c2
  by_cases c3:a0≥32
  ·rw[if_pos c3]at H;have c3b0:decide (32≤a0)=true:=decide_eq_true c3;clear c3;obtain rfl:=Option.some.inj H;go_enter Tryz.func95,Tryz.ntmps95
   go_wp2
   go_ret;exact⟨zz3,zz5⟩
  ·rw[if_neg c3]at H;have c3b0:decide (32≤a0)=false:=decide_eq_false c3;clear c3;obtain rfl:=Option.some.inj H;go_enter Tryz.func95,Tryz.ntmps95
   go_wp2
   go_ret;exact⟨zz3,zz5⟩
def spec_l5plain.l0:Nat→ByteArray→Int→Option (Bool)
 |0,_,_=>none
 |k+1,x0,x3=>if x3<(x0.size:Int)then(if 0≤x3 then((spec_l1plain.f (bt x0 x3)).bind fun t113=>(if t113=true then(spec_l5plain.l0 k x0 (wrap64 (x3+1)))else(some false)))else(none))else(some true)
def spec_l5plain.f (k:Nat) (a0:ByteArray):Option (Bool):=spec_l5plain.l0 k a0 0
theorem spec_l5plain.calls (k:Nat) (a0:ByteArray) (r:Bool) (w:World) (h:spec_l5plain.f k a0=some r):
  Calls Tryz.prog 48 #[.string a0] w fun e w'=>e= .returned (.bool r)∧Drawn0 w w':=by
 have H:(spec_l5plain.l0 k a0 0)=some r:=h;clear h;have H':=Aside0.mk H;clear H;go_enter Tryz.func48,Tryz.ntmps48
 go_wp2
 go_loopg [3] k (fun kq v3 w'=> ∃(x3_1:Int),v3= .int .i64 x3_1∧Aside0 (spec_l5plain.l0 kq a0 x3_1=some r)∧Aside0 (kq≤k)∧Drawn0 w w')
 case atStart=>exact⟨(0),zz3,H',⟨Nat.le_refl _⟩,zz5⟩
 case round=>
  clear H';obtain⟨x3_1,rfl,HA,HK1,⟨m1,rfl⟩⟩:=hrel
  cases gk with
  |zero=>exact absurd HA.out (by simp[spec_l5plain.l0])
  |succ k1=>
   have H:=HA.out;clear HA;simp only[spec_l5plain.l0]at H
   by_cases c2:x3_1<(a0.size:Int)
   ·rw[if_pos c2]at H;have c2b0:decide (x3_1<(a0.size:Int))=true:=decide_eq_true c2;clear c2
    by_cases c3:0≤x3_1
    ·rw[if_pos c3]at H;have c3b0:decide (0≤x3_1)=true:=decide_eq_true c3;clear c3;replace H:=Option.bind_eq_some_iff.mp H;obtain⟨t113,A50,H⟩:=H;(try dsimp only at H);have A5:=Aside0.mk A50;clear A50;have HC6:=Aside0.mk H;clear H;have p4:0≤(x3_1:Int):=of_decide_eq_true zz7;have q4:x3_1<(a0.size:Int):=of_decide_eq_true zz7;have hx4:=bt_at a0 x3_1;replace p4:=eq_true p4;replace q4:=eq_true q4;go_upto_if 14 with(first|((with_reducible refine gate_callee (f:=95) rfl ?_);refine goesR_ 13 Tryz.func95 #[.int .u8 (bt a0 x3_1)] (spec_l1plain.calls (bt a0 x3_1) t113 _ A5.out) ?_;rintro w' ⟨nd,rfl⟩))
     (try simp only[Act.put,List.setIfInBounds_toArray,List.set_cons_zero,List.set_cons_succ]);have H:=HC6.out;clear HC6
     by_cases c7:t113=true
     ·subst c7;rw[if_pos rfl]at H;have H':=Aside0.mk H;clear H;go_wp2
      go_roundg k1
      (case measure=>have:=HK1.out;omega);case rel=>exact⟨(wrap64 (x3_1+1)),zz3,H',⟨zz72⟩,zz5⟩
     ·replace c7:=Bool.eq_false_iff.mpr c7;subst c7;rw[if_neg Bool.false_ne_true]at H;obtain rfl:=Option.some.inj H;go_wp2
      go_ret;exact⟨zz3,zz5⟩
    ·rw[if_neg c3]at H;exact absurd H (by simp)
   ·rw[if_neg c2]at H;have c2b0:decide (x3_1<(a0.size:Int))=false:=decide_eq_false c2;clear c2;obtain rfl:=Option.some.inj H;go_wp2
    go_ret;exact⟨zz3,zz5⟩
end Go.Proofs.YtnilblnhlpnpgaaGreatDoor.GFnExactGrammar
