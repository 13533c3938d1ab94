-- Laid by gen.py of this session (over the kit's printing program): what the law FnWiths reaches, as Lean functions, and that Go comes to just that.
import Derived.Test.YtkkolioolgpljaaGFnWithsx0
import Derived.Test.YtkkolioolgpljaaGFnWithsx8
import Derived.Test.YtkkolioolgpljaaZFnWiths
namespace Go.Proofs.Ytkkolioolgpljaa.GFnWiths
open Go.RowKit Go.Proofs.YtkkolioolgpljaaW.PrintWords Go.Proofs.YtkkolioolgpljaaW.PrintLast Go.Proofs.YtkkolioolgpljaaW.PrintMore Go.Proofs.YtkkolioolgpljaaW.Zs
attribute [local go_sem] max2_int min2_int max_two min_two max_three min_three max_four min_four -- for this text's walks alone
set_option linter.unusedVariables false
set_option linter.unusedSimpArgs false
/-! ### spec_l1digit: function 60 -/
def spec_l1digit.f (a0:Int):Option (Bool):=if a0≥48 then(some (decide (a0≤57)))else(some false)
set_option maxHeartbeats 40000000 in
set_option maxRecDepth 100000 in
theorem spec_l1digit.calls (a0 : Int) (r : Bool) (w : World) (h : spec_l1digit.f a0 = some r) :
  Calls Try.prog 60 #[.int .u8 a0] w fun e w'=>e= .returned (.bool r)∧Drawn0 w w':=by
 have H:(if a0≥48 then(some (decide (a0≤57)))else(some false))=some r:=h;clear h
 by_cases c2:a0≥48
 ·rw[if_pos c2]at H;have c2b0:decide (48≤a0)=true:=decide_eq_true c2;clear c2;obtain rfl:=Option.some.inj H;go_enter Try.func60,Try.ntmps60
  go_wp2
  go_ret;exact⟨zz6,zz7⟩
 ·rw[if_neg c2]at H;have c2b0:decide (48≤a0)=false:=decide_eq_false c2;clear c2;obtain rfl:=Option.some.inj H;go_enter Try.func60,Try.ntmps60
  go_wp2
  go_ret;exact⟨zz6,zz7⟩
/-! ### spec_l1has: function 61 -/
def spec_l1has.l0:Nat→ByteArray→Int→Int→Option (Bool)
 |0,_,_,_=>none
 |k+1,x0,x1,x5=>if x5<(x0.size:Int)then(if 0≤x5 then(if(bt x0 x5)=x1 then(some true)else(spec_l1has.l0 k x0 x1 (wrap64 (x5+1))))else(none))else(some false)
def spec_l1has.f (k:Nat) (a0:ByteArray) (a1:Int):Option (Bool):=spec_l1has.l0 k a0 a1 0
set_option maxHeartbeats 40000000 in
set_option maxRecDepth 100000 in
theorem spec_l1has.calls (k : Nat) (a0 : ByteArray) (a1 : Int) (r : Bool) (w : World) (h : spec_l1has.f k a0 a1 = some r) :
  Calls Try.prog 61 #[.string a0,.int .u8 a1] w fun e w'=>e= .returned (.bool r)∧Drawn0 w w':=by
 have H:(spec_l1has.l0 k a0 a1 0)=some r:=h;clear h;have H':=Aside0.mk H;clear H;go_enter Try.func61,Try.ntmps61
 go_wp2
 go_loopg [5] k (fun kq v5 w'=> ∃(x5_1:Int),v5= .int .i64 x5_1∧Aside0 (spec_l1has.l0 kq a0 a1 x5_1=some r)∧Aside0 (kq≤k)∧Drawn0 w w')
 case atStart=>exact⟨(0),zz6,H',⟨Nat.le_refl _⟩,zz7⟩
 case round=>
  clear H';(try clear p2);obtain⟨x5_1,rfl,HA,HK1,⟨m1,rfl⟩⟩:=hrel
  cases gk with
  |zero=>exact absurd HA.out (by simp[spec_l1has.l0])
  |succ k1=>
   have H:=HA.out;clear HA;simp only[spec_l1has.l0]at H
   by_cases c3:x5_1<(a0.size:Int)
   ·rw[if_pos c3]at H;have c3b0:decide (x5_1<(a0.size:Int))=true:=decide_eq_true c3;clear c3
    by_cases c4:0≤x5_1
    ·rw[if_pos c4]at H;have c4b0:decide (0≤x5_1)=true:=decide_eq_true c4;clear c4
     by_cases c6:(bt a0 x5_1)=a1
     ·rw[if_pos c6]at H;have c6b0:((bt a0 x5_1)==a1)=true:=beq_iff_eq.mpr c6;have c6b1:((bt a0 x5_1)!=a1)=false:=bne_eq_false_iff_eq.mpr c6;clear c6;obtain rfl:=Option.some.inj H;have p5:0≤(x5_1:Int):=of_decide_eq_true zz8;have q5:x5_1<(a0.size:Int):=of_decide_eq_true zz8;have hx5:=bt_at a0 x5_1;replace p5:=eq_true p5;replace q5:=eq_true q5;go_wp2
      go_ret;exact⟨zz6,zz7⟩
     ·rw[if_neg c6]at H;have c6b0:((bt a0 x5_1)==a1)=false:=beq_eq_false_iff_ne.mpr c6;have c6b1:((bt a0 x5_1)!=a1)=true:=bne_iff_ne.mpr c6;have H':=Aside0.mk H;clear H;have p5:0≤(x5_1:Int):=of_decide_eq_true zz8;have q5:x5_1<(a0.size:Int):=of_decide_eq_true zz8;have hx5:=bt_at a0 x5_1;replace p5:=eq_true p5;replace q5:=eq_true q5;go_wp2
      go_roundg k1
      (case measure=>have:=HK1.out;omega);case rel=>exact⟨(wrap64 (x5_1+1)),zz6,H',⟨zz42⟩,zz7⟩
    ·rw[if_neg c4]at H;exact absurd H (by simp)
   ·rw[if_neg c3]at H;have c3b0:decide (x5_1<(a0.size:Int))=false:=decide_eq_false c3;clear c3;obtain rfl:=Option.some.inj H;go_wp2
    go_ret;exact⟨zz6,zz7⟩
/-! ### spec_l1tchar: function 44 -/
def spec_l1tchar.f (k:Nat) (a0:Int):Option (Bool):=(spec_l1lower.f a0).bind fun t315=>(if t315≥97 then(if t315≤122 then(some true)else((spec_l1digit.f a0).bind fun t316=>(if t316=true then(some true)else(if a0=96 then(some true)else((spec_l1has.f k (⟨#[33,35,36,37,38,39,42,43,45,46,94,95,124,126]⟩:ByteArray) a0).bind fun t317=>(some t317))))))else((spec_l1digit.f a0).bind fun t318=>(if t318=true then(some true)else(if a0=96 then(some true)else((spec_l1has.f k (⟨#[33,35,36,37,38,39,42,43,45,46,94,95,124,126]⟩:ByteArray) a0).bind fun t319=>(some t319))))))
set_option maxHeartbeats 40000000 in
set_option maxRecDepth 100000 in
theorem spec_l1tchar.calls (k : Nat) (a0 : Int) (r : Bool) (w : World) (h : spec_l1tchar.f k a0 = some r) :
  Calls Try.prog 44 #[.int .u8 a0] w fun e w'=>e= .returned (.bool r)∧Drawn0 w w':=by
 have H:((spec_l1lower.f a0).bind fun t315=>(if t315≥97 then(if t315≤122 then(some true)else((spec_l1digit.f a0).bind fun t316=>(if t316=true then(some true)else(if a0=96 then(some true)else((spec_l1has.f k (⟨#[33,35,36,37,38,39,42,43,45,46,94,95,124,126]⟩:ByteArray) a0).bind fun t317=>(some t317))))))else((spec_l1digit.f a0).bind fun t318=>(if t318=true then(some true)else(if a0=96 then(some true)else((spec_l1has.f k (⟨#[33,35,36,37,38,39,42,43,45,46,94,95,124,126]⟩:ByteArray) a0).bind fun t319=>(some t319)))))))=some r:=h;clear h;replace H:=Option.bind_eq_some_iff.mp H;obtain⟨t315,A20,H⟩:=H;(try dsimp only at H);have A2:=Aside0.mk A20;clear A20;have HC3:=Aside0.mk H;clear H;go_enter Try.func44,Try.ntmps44
 repeat' (first|(go_big_may;(first|((with_reducible refine gate_callee (f:=59) rfl ?_);refine goesQ_ 5 Try.func59 #[.int .u8 a0] ?_;(with_reducible refine(spec_l1lower.calls a0 t315 _ A2.out).mono ?_);rintro e w' ⟨rfl,⟨nd,rfl⟩⟩;refine⟨_,rfl,?_⟩)))|go_values|go_skip|go_big_skip|go_big_want|((first|(with_reducible refine gate_nog rfl ?_)|(fail_if_success with_reducible refine gate_any ?_));go_step)|go_upon|simp only[Bool.not_true,Bool.not_false,Bool.true_and,Bool.false_and,Bool.true_or,Bool.false_or]|dsimp only)
 (try simp only[Act.put,List.setIfInBounds_toArray,List.set_cons_zero,List.set_cons_succ]);have H:=HC3.out;clear HC3
 by_cases c4:t315≥97
 ·rw[if_pos c4]at H;have c4b0:decide (97≤t315)=true:=decide_eq_true c4;clear c4;(first|rw[c4b0]|(simp only[i64_w,i32_w];rw[c4b0])|skip)
  by_cases c5:t315≤122
  ·rw[if_pos c5]at H;have c5b0:decide (t315≤122)=true:=decide_eq_true c5;clear c5;obtain rfl:=Option.some.inj H;go_wp2
   go_ret;exact⟨zz6,zz7⟩
  ·rw[if_neg c5]at H;have c5b0:decide (t315≤122)=false:=decide_eq_false c5;clear c5;replace H:=Option.bind_eq_some_iff.mp H;obtain⟨t316,A60,H⟩:=H;(try dsimp only at H);have A6:=Aside0.mk A60;clear A60;have HC7:=Aside0.mk H;clear H
   repeat' (first|(go_big_may;(first|(go_at_call 60;(with_reducible refine(spec_l1digit.calls a0 t316 _ A6.out).mono ?_);rintro e w' ⟨rfl,⟨nd,rfl⟩⟩)))|go_values|go_skip|go_big_skip|go_big_want|((first|(with_reducible refine gate_nog rfl ?_)|(fail_if_success with_reducible refine gate_any ?_));go_step)|go_upon|simp only[Bool.not_true,Bool.not_false,Bool.true_and,Bool.false_and,Bool.true_or,Bool.false_or]|dsimp only)
   (try simp only[Act.put,List.setIfInBounds_toArray,List.set_cons_zero,List.set_cons_succ]);have H:=HC7.out;clear HC7
   by_cases c8:t316=true
   ·subst c8;rw[if_pos rfl]at H;obtain rfl:=Option.some.inj H;go_wp2
    go_ret;exact⟨zz6,zz7⟩
   ·replace c8:=Bool.eq_false_iff.mpr c8;subst c8;rw[if_neg Bool.false_ne_true]at H
    by_cases c9:a0=96
    ·rw[if_pos c9]at H;have c9b0:(a0==96)=true:=beq_iff_eq.mpr c9;have c9b1:(a0 !=96)=false:=bne_eq_false_iff_eq.mpr c9;clear c9;(first|rw[c9b0]|(simp only[i64_w,i32_w];rw[c9b0])|rw[c9b1]|(rw[c9b2];simp only[Bool.not_true,Bool.not_false])|skip);obtain rfl:=Option.some.inj H;go_wp2
     go_ret;exact⟨zz6,zz7⟩
    ·rw[if_neg c9]at H;have c9b0:(a0==96)=false:=beq_eq_false_iff_ne.mpr c9;have c9b1:(a0 !=96)=true:=bne_iff_ne.mpr c9;(first|rw[c9b0]|(simp only[i64_w,i32_w];rw[c9b0])|rw[c9b1]|(rw[c9b2];simp only[Bool.not_true,Bool.not_false])|skip);replace H:=Option.bind_eq_some_iff.mp H;obtain⟨t317,A100,H⟩:=H;(try dsimp only at H);have A10:=Aside0.mk A100;clear A100;obtain rfl:=Option.some.inj H;go_wp2_with (first|(go_at_call 61;(with_reducible refine(spec_l1has.calls k (⟨#[33,35,36,37,38,39,42,43,45,46,94,95,124,126]⟩:ByteArray) a0 t317 _ A10.out).mono ?_);rintro e w' ⟨rfl,⟨nd,rfl⟩⟩))
     go_ret;exact⟨zz6,zz7⟩
 ·rw[if_neg c4]at H;have c4b0:decide (97≤t315)=false:=decide_eq_false c4;clear c4;(first|rw[c4b0]|(simp only[i64_w,i32_w];rw[c4b0])|skip);replace H:=Option.bind_eq_some_iff.mp H;obtain⟨t318,A110,H⟩:=H;(try dsimp only at H);have A11:=Aside0.mk A110;clear A110;have HC12:=Aside0.mk H;clear H
  repeat' (first|(go_big_may;(first|(go_at_call 60;(with_reducible refine(spec_l1digit.calls a0 t318 _ A11.out).mono ?_);rintro e w' ⟨rfl,⟨nd,rfl⟩⟩)))|go_values|go_skip|go_big_skip|go_big_want|((first|(with_reducible refine gate_nog rfl ?_)|(fail_if_success with_reducible refine gate_any ?_));go_step)|go_upon|simp only[Bool.not_true,Bool.not_false,Bool.true_and,Bool.false_and,Bool.true_or,Bool.false_or]|dsimp only)
  (try simp only[Act.put,List.setIfInBounds_toArray,List.set_cons_zero,List.set_cons_succ]);have H:=HC12.out;clear HC12
  by_cases c13:t318=true
  ·subst c13;rw[if_pos rfl]at H;obtain rfl:=Option.some.inj H;go_wp2
   go_ret;exact⟨zz6,zz7⟩
  ·replace c13:=Bool.eq_false_iff.mpr c13;subst c13;rw[if_neg Bool.false_ne_true]at H
   by_cases c14:a0=96
   ·rw[if_pos c14]at H;have c14b0:(a0==96)=true:=beq_iff_eq.mpr c14;have c14b1:(a0 !=96)=false:=bne_eq_false_iff_eq.mpr c14;clear c14;(first|rw[c14b0]|(simp only[i64_w,i32_w];rw[c14b0])|rw[c14b1]|(rw[c14b2];simp only[Bool.not_true,Bool.not_false])|skip);obtain rfl:=Option.some.inj H;go_wp2
    go_ret;exact⟨zz6,zz7⟩
   ·rw[if_neg c14]at H;have c14b0:(a0==96)=false:=beq_eq_false_iff_ne.mpr c14;have c14b1:(a0 !=96)=true:=bne_iff_ne.mpr c14;(first|rw[c14b0]|(simp only[i64_w,i32_w];rw[c14b0])|rw[c14b1]|(rw[c14b2];simp only[Bool.not_true,Bool.not_false])|skip);replace H:=Option.bind_eq_some_iff.mp H;obtain⟨t319,A150,H⟩:=H;(try dsimp only at H);have A15:=Aside0.mk A150;clear A150;obtain rfl:=Option.some.inj H;go_wp2_with (first|(go_at_call 61;(with_reducible refine(spec_l1has.calls k (⟨#[33,35,36,37,38,39,42,43,45,46,94,95,124,126]⟩:ByteArray) a0 t319 _ A15.out).mono ?_);rintro e w' ⟨rfl,⟨nd,rfl⟩⟩))
    go_ret;exact⟨zz6,zz7⟩
/-! ### spec_Token: function 23 -/
mutual
def spec_Token.j0:Nat→ByteArray→Bool→Option (Bool)
 |0,_,_=>none
 |k+1,x0,x11=>if x11=true then(some false)else(spec_Token.l0 k x0 0)
def spec_Token.l0:Nat→ByteArray→Int→Option (Bool)
 |0,_,_=>none
 |k+1,x0,x3=>if x3<(x0.size:Int)then(if 0≤x3 then((spec_l1tchar.f k (bt x0 x3)).bind fun t320=>(if t320=true then(spec_Token.l0 k x0 (wrap64 (x3+1)))else(some false)))else(none))else(some true)
end
def spec_Token.f (k:Nat) (a0:ByteArray):Option (Bool):=if(a0.size:Int)=0 then(spec_Token.j0 k a0 true)else(spec_Token.j0 k a0 (decide ((a0.size:Int)>4000)))
set_option maxHeartbeats 40000000 in
set_option maxRecDepth 100000 in
theorem spec_Token.calls (k : Nat) (a0 : ByteArray) (r : Bool) (w : World) (h : spec_Token.f k a0 = some r) :
  Calls Try.prog 23 #[.string a0] w fun e w'=>e= .returned (.bool r)∧Drawn0 w w':=by
 have H:(if(a0.size:Int)=0 then(spec_Token.j0 k a0 true)else(spec_Token.j0 k a0 (decide ((a0.size:Int)>4000))))=some r:=h;clear h;have HC2:=Aside0.mk H;clear H;go_enter Try.func23,Try.ntmps23
 go_upto_region 1 with(fail)
 go_cut [11] (fun v11 wc=> ∃(kq:Nat) (x11_1:Bool),v11= .bool x11_1∧Aside0 (spec_Token.j0 kq a0 x11_1=some r)∧Aside0 (kq≤k)∧Drawn0 w wc)
 case first=>
  have H:=HC2.out;clear HC2
  by_cases c3:(a0.size:Int)=0
  ·rw[if_pos c3]at H;have c3b0:((a0.size:Int)==0)=true:=beq_iff_eq.mpr c3;have c3b1:((a0.size:Int)!=0)=false:=bne_eq_false_iff_eq.mpr c3;clear c3;(first|rw[c3b0]|(simp only[i64_w,i32_w];rw[c3b0])|rw[c3b1]|(rw[c3b2];simp only[Bool.not_true,Bool.not_false])|skip);have H':=Aside0.mk H;clear H;go_wp2
   go_meet
   case rel=>exact⟨_,(true),zz6,H',⟨zz50⟩,zz7⟩
  ·rw[if_neg c3]at H;have c3b0:((a0.size:Int)==0)=false:=beq_eq_false_iff_ne.mpr c3;have c3b1:((a0.size:Int)!=0)=true:=bne_iff_ne.mpr c3;(first|rw[c3b0]|(simp only[i64_w,i32_w];rw[c3b0])|rw[c3b1]|(rw[c3b2];simp only[Bool.not_true,Bool.not_false])|skip);have H':=Aside0.mk H;clear H;go_wp2
   go_meet
   case rel=>exact⟨_,(decide ((a0.size:Int)>4000)),zz6,H',⟨zz50⟩,zz7⟩
 case rest=>
  clear HC2;(try clear c2);(try clear p2);(try clear c3);(try clear c3b0);(try clear c3b1);obtain⟨kq,x11_1,rfl,HA,HJ1,⟨mc1,rfl⟩⟩:=hcut
  cases kq with
  |zero=>exact absurd HA.out (by simp[spec_Token.j0])
  |succ kj1=>
   have H:=HA.out;clear HA;simp only[spec_Token.j0]at H
   by_cases c4:x11_1=true
   ·subst c4;rw[if_pos rfl]at H;obtain rfl:=Option.some.inj H;go_wp2
    go_ret;exact⟨zz6,zz7⟩
   ·replace c4:=Bool.eq_false_iff.mpr c4;subst c4;rw[if_neg Bool.false_ne_true]at H;have H':=Aside0.mk H;clear H;go_wp2
    go_loopg [3] kj1 (fun kq v3 w'=> ∃(x3_2:Int),v3= .int .i64 x3_2∧Aside0 (spec_Token.l0 kq a0 x3_2=some r)∧Aside0 (kq≤kj1)∧Drawn0 w w')
    case atStart=>exact⟨(0),zz6,H',⟨Nat.le_refl _⟩,zz7⟩
    case round=>
     clear H';(try clear c1);(try clear c2);(try clear p2);(try clear c3);(try clear c3b0);(try clear c3b1);(try clear c4);(try clear p2);obtain⟨x3_2,rfl,HA,HK2,⟨m2,rfl⟩⟩:=hrel
     cases gk with
     |zero=>exact absurd HA.out (by simp[spec_Token.l0])
     |succ k2=>
      have H:=HA.out;clear HA;simp only[spec_Token.l0]at H
      by_cases c5:x3_2<(a0.size:Int)
      ·rw[if_pos c5]at H;have c5b0:decide (x3_2<(a0.size:Int))=true:=decide_eq_true c5;clear c5
       by_cases c6:0≤x3_2
       ·rw[if_pos c6]at H;have c6b0:decide (0≤x3_2)=true:=decide_eq_true c6;clear c6;replace H:=Option.bind_eq_some_iff.mp H;obtain⟨t320,A80,H⟩:=H;(try dsimp only at H);have A8:=Aside0.mk A80;clear A80;have HC9:=Aside0.mk H;clear H;have p7:0≤(x3_2:Int):=of_decide_eq_true zz8;have q7:x3_2<(a0.size:Int):=of_decide_eq_true zz8;have hx7:=bt_at a0 x3_2;replace p7:=eq_true p7;replace q7:=eq_true q7;go_upto_if 22 with(first|((with_reducible refine gate_callee (f:=44) rfl ?_);refine goesQ_ 21 Try.func44 #[.int .u8 (bt a0 x3_2)] ?_;(with_reducible refine(spec_l1tchar.calls k2 (bt a0 x3_2) t320 _ A8.out).mono ?_);rintro e w' ⟨rfl,⟨nd,rfl⟩⟩;refine⟨_,rfl,?_⟩))
        (try simp only[Act.put,List.setIfInBounds_toArray,List.set_cons_zero,List.set_cons_succ]);have H:=HC9.out;clear HC9
        by_cases c10:t320=true
        ·subst c10;rw[if_pos rfl]at H;have H':=Aside0.mk H;clear H;go_wp2
         go_roundg k2
         (case measure=>have:=HJ1.out;have:=HK2.out;omega);case rel=>exact⟨(wrap64 (x3_2+1)),zz6,H',⟨by have:=HJ1.out;have:=HK2.out;omega⟩,zz7⟩
        ·replace c10:=Bool.eq_false_iff.mpr c10;subst c10;rw[if_neg Bool.false_ne_true]at H;obtain rfl:=Option.some.inj H;go_wp2
         go_ret;exact⟨zz6,zz7⟩
       ·rw[if_neg c6]at H;exact absurd H (by simp)
      ·rw[if_neg c5]at H;have c5b0:decide (x3_2<(a0.size:Int))=false:=decide_eq_false c5;clear c5;obtain rfl:=Option.some.inj H;go_wp2
       go_ret;exact⟨zz6,zz7⟩
/-! ### spec_l1plain: function 45 -/
def spec_l1plain.f (a0:Int):Option (Bool):=if a0=9 then(some true)else(if a0≥32 then(some (a0 !=127))else(some false))
set_option maxHeartbeats 40000000 in
set_option maxRecDepth 100000 in
theorem spec_l1plain.calls (a0 : Int) (r : Bool) (w : World) (h : spec_l1plain.f a0 = some r) :
  Calls Try.prog 45 #[.int .u8 a0] w fun e w'=>e= .returned (.bool r)∧Drawn0 w w':=by
 have H:(if a0=9 then(some true)else(if a0≥32 then(some (a0 !=127))else(some false)))=some r:=h;clear h
 by_cases c2:a0=9
 ·rw[if_pos c2]at H;have c2b0:(a0==9)=true:=beq_iff_eq.mpr c2;have c2b1:(a0 !=9)=false:=bne_eq_false_iff_eq.mpr c2;clear c2;obtain rfl:=Option.some.inj H;go_enter Try.func45,Try.ntmps45
  go_wp2
  go_ret;exact⟨zz6,zz7⟩
 ·rw[if_neg c2]at H;have c2b0:(a0==9)=false:=beq_eq_false_iff_ne.mpr c2;have c2b1:(a0 !=9)=true:=bne_iff_ne.mpr c2
  by_cases c3:a0≥32
  ·rw[if_pos c3]at H;have c3b0:decide (32≤a0)=true:=decide_eq_true c3;clear c3;obtain rfl:=Option.some.inj H;go_enter Try.func45,Try.ntmps45
   go_wp2
   go_ret;exact⟨zz6,zz7⟩
  ·rw[if_neg c3]at H;have c3b0:decide (32≤a0)=false:=decide_eq_false c3;clear c3;obtain rfl:=Option.some.inj H;go_enter Try.func45,Try.ntmps45
   go_wp2
   go_ret;exact⟨zz6,zz7⟩
/-! ### spec_l5plain: function 24 -/
def spec_l5plain.l0:Nat→ByteArray→Int→Option (Bool)
 |0,_,_=>none
 |k+1,x0,x3=>if x3<(x0.size:Int)then(if 0≤x3 then((spec_l1plain.f (bt x0 x3)).bind fun t321=>(if t321=true then(spec_l5plain.l0 k x0 (wrap64 (x3+1)))else(some false)))else(none))else(some true)
def spec_l5plain.f (k:Nat) (a0:ByteArray):Option (Bool):=spec_l5plain.l0 k a0 0
set_option maxHeartbeats 40000000 in
set_option maxRecDepth 100000 in
theorem spec_l5plain.calls (k : Nat) (a0 : ByteArray) (r : Bool) (w : World) (h : spec_l5plain.f k a0 = some r) :
  Calls Try.prog 24 #[.string a0] w fun e w'=>e= .returned (.bool r)∧Drawn0 w w':=by
 have H:(spec_l5plain.l0 k a0 0)=some r:=h;clear h;have H':=Aside0.mk H;clear H;go_enter Try.func24,Try.ntmps24
 go_wp2
 go_loopg [3] k (fun kq v3 w'=> ∃(x3_1:Int),v3= .int .i64 x3_1∧Aside0 (spec_l5plain.l0 kq a0 x3_1=some r)∧Aside0 (kq≤k)∧Drawn0 w w')
 case atStart=>exact⟨(0),zz6,H',⟨Nat.le_refl _⟩,zz7⟩
 case round=>
  clear H';obtain⟨x3_1,rfl,HA,HK1,⟨m1,rfl⟩⟩:=hrel
  cases gk with
  |zero=>exact absurd HA.out (by simp[spec_l5plain.l0])
  |succ k1=>
   have H:=HA.out;clear HA;simp only[spec_l5plain.l0]at H
   by_cases c2:x3_1<(a0.size:Int)
   ·rw[if_pos c2]at H;have c2b0:decide (x3_1<(a0.size:Int))=true:=decide_eq_true c2;clear c2
    by_cases c3:0≤x3_1
    ·rw[if_pos c3]at H;have c3b0:decide (0≤x3_1)=true:=decide_eq_true c3;clear c3;replace H:=Option.bind_eq_some_iff.mp H;obtain⟨t321,A50,H⟩:=H;(try dsimp only at H);have A5:=Aside0.mk A50;clear A50;have HC6:=Aside0.mk H;clear H;have p4:0≤(x3_1:Int):=of_decide_eq_true zz8;have q4:x3_1<(a0.size:Int):=of_decide_eq_true zz8;have hx4:=bt_at a0 x3_1;replace p4:=eq_true p4;replace q4:=eq_true q4;go_upto_if 14 with(first|((with_reducible refine gate_callee (f:=45) rfl ?_);refine goesQ_ 13 Try.func45 #[.int .u8 (bt a0 x3_1)] ?_;(with_reducible refine(spec_l1plain.calls (bt a0 x3_1) t321 _ A5.out).mono ?_);rintro e w' ⟨rfl,⟨nd,rfl⟩⟩;refine⟨_,rfl,?_⟩))
     (try simp only[Act.put,List.setIfInBounds_toArray,List.set_cons_zero,List.set_cons_succ]);have H:=HC6.out;clear HC6
     by_cases c7:t321=true
     ·subst c7;rw[if_pos rfl]at H;have H':=Aside0.mk H;clear H;go_wp2
      go_roundg k1
      (case measure=>have:=HK1.out;omega);case rel=>exact⟨(wrap64 (x3_1+1)),zz6,H',⟨zz42⟩,zz7⟩
     ·replace c7:=Bool.eq_false_iff.mpr c7;subst c7;rw[if_neg Bool.false_ne_true]at H;obtain rfl:=Option.some.inj H;go_wp2
      go_ret;exact⟨zz6,zz7⟩
    ·rw[if_neg c3]at H;exact absurd H (by simp)
   ·rw[if_neg c2]at H;have c2b0:decide (x3_1<(a0.size:Int))=false:=decide_eq_false c2;clear c2;obtain rfl:=Option.some.inj H;go_wp2
    go_ret;exact⟨zz6,zz7⟩
/-! ### spec_l1white: function 46 -/
def spec_l1white.f (a0:Int):Option (Bool):=if a0=32 then(some true)else(some (a0==9))
set_option maxHeartbeats 40000000 in
set_option maxRecDepth 100000 in
theorem spec_l1white.calls (a0 : Int) (r : Bool) (w : World) (h : spec_l1white.f a0 = some r) :
  Calls Try.prog 46 #[.int .u8 a0] w fun e w'=>e= .returned (.bool r)∧Drawn0 w w':=by
 have H:(if a0=32 then(some true)else(some (a0==9)))=some r:=h;clear h
 by_cases c2:a0=32
 ·rw[if_pos c2]at H;have c2b0:(a0==32)=true:=beq_iff_eq.mpr c2;have c2b1:(a0 !=32)=false:=bne_eq_false_iff_eq.mpr c2;clear c2;obtain rfl:=Option.some.inj H;go_enter Try.func46,Try.ntmps46
  go_wp2
  go_ret;exact⟨zz6,zz7⟩
 ·rw[if_neg c2]at H;have c2b0:(a0==32)=false:=beq_eq_false_iff_ne.mpr c2;have c2b1:(a0 !=32)=true:=bne_iff_ne.mpr c2;obtain rfl:=Option.some.inj H;go_enter Try.func46,Try.ntmps46
  go_wp2
  go_ret;exact⟨zz6,zz7⟩
end Go.Proofs.Ytkkolioolgpljaa.GFnWiths
