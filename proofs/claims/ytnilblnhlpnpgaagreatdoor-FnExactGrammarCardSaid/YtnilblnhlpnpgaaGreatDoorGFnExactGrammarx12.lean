-- Printed by gen.py and its programs for this claim.
import Derived.Test.YtnilblnhlpnpgaaGreatDoorGFnExactGrammarx0
import Derived.Test.YtnilblnhlpnpgaaGreatDoorGFnExactGrammarx10
import Derived.Test.YtnilblnhlpnpgaaGreatDoorGFnExactGrammarx11
import Derived.Test.YtnilblnhlpnpgaaGreatDoorZFnExactGrammar
namespace Go.Proofs.YtnilblnhlpnpgaaGreatDoor.GFnExactGrammar
open Go.RowKit Go.Proofs.YtnilblnhlpnpgaaGreatDoorW.PrintWords Go.Proofs.YtnilblnhlpnpgaaGreatDoorW.PrintLast Go.Proofs.YtnilblnhlpnpgaaGreatDoorW.PrintMore Go.Proofs.YtnilblnhlpnpgaaGreatDoorW.Zs
set_option maxHeartbeats 40000000
set_option maxRecDepth 100000
attribute [local go_sem] max2_int min2_int max_two min_two max_three min_three max_four min_four
set_option linter.unusedVariables false
set_option linter.unusedSimpArgs false
mutual
def impl_Trim.j1:Nat→ByteArray→Option (ByteArray)
 |0,_=>none
 |k+1,x0=>impl_Trim.l1 k x0
def impl_Trim.l1:Nat→ByteArray→Option (ByteArray)
 |0,_=>none
 |k+1,x0=>if x0.toList=([]:List UInt8)then(some x0)else(if 0≤(wrap64 ((x0.size:Int)-1))then(if(wrap64 ((x0.size:Int)-1))<(x0.size:Int)then((impl_isSpace.f (bt x0 (wrap64 ((x0.size:Int)-1)))).bind fun t242=>(if t242=true then(if(wrap64 ((x0.size:Int)-1))≤(x0.size:Int)then(impl_Trim.l1 k (x0.extract 0 ((wrap64 ((x0.size:Int)-1)):Int).toNat))else(none))else(some x0)))else(none))else(none))
def impl_Trim.l0:Nat→ByteArray→Option (ByteArray)
 |0,_=>none
 |k+1,x0=>if x0.toList=([]:List UInt8)then(impl_Trim.j1 k x0)else(if 0<(x0.size:Int)then((impl_isSpace.f (bt x0 0)).bind fun t241=>(if t241=true then(if 1≤(x0.size:Int)then(impl_Trim.l0 k (x0.extract 1 x0.size))else(none))else(impl_Trim.j1 k x0)))else(none))
end
def impl_Trim.f (k:Nat) (a0:ByteArray):Option (ByteArray):=impl_Trim.l0 k a0
theorem impl_Trim.calls (k:Nat) (a0 r:ByteArray) (w:World) (h:impl_Trim.f k a0=some r):
  Calls Tryz.prog 53 #[.string a0] w fun e w'=>e= .returned (.string r)∧Drawn0 w w':=by
 have H:(impl_Trim.l0 k a0)=some r:=h;clear h;have HC2:=Aside0.mk H;clear H;go_enter Tryz.func53,Tryz.ntmps53
 go_upto_block 0 with(fail)
 go_cut [0] (fun v0 wc=> ∃(kq:Nat) (x0_1:ByteArray),v0= .string x0_1∧Aside0 (impl_Trim.j1 kq x0_1=some r)∧Aside0 (kq≤k)∧Drawn0 w wc)
 case first=>
  have H:=HC2.out;clear HC2;have H':=Aside0.mk H;clear H;go_wp2
  go_loopg [0] k (fun kq v0 w'=> ∃(x0_1:ByteArray),v0= .string x0_1∧Aside0 (impl_Trim.l0 kq x0_1=some r)∧Aside0 (kq≤k)∧Drawn0 w w')
  case atStart=>exact⟨(a0),zz3,H',⟨Nat.le_refl _⟩,zz5⟩
  case round=>
   clear H';(try clear p2);obtain⟨x0_1,rfl,HA,HK1,⟨m1,rfl⟩⟩:=hrel
   cases gk with
   |zero=>exact absurd HA.out (by simp[impl_Trim.l0])
   |succ k1=>
    have H:=HA.out;clear HA;simp only[impl_Trim.l0]at H
    by_cases c3:x0_1.toList=([]:List UInt8)
    ·rw[if_pos c3]at H;have c3b0:(x0_1.toList==([]:List UInt8))=true:=beq_iff_eq.mpr c3;have c3e:x0_1.toList.isEmpty=true:=by have hz_:=beq_iff_eq.1 c3b0;rw[hz_];rfl
     (try rw[c3e]);have c3b1:(x0_1.toList !=([]:List UInt8))=false:=bne_eq_false_iff_eq.mpr c3;clear c3;(first|rw[c3b0]|(simp only[i64_w,i32_w];rw[c3b0])|rw[c3b1]|(rw[c3b2];simp only[Bool.not_true,Bool.not_false])|skip);have H':=Aside0.mk H;clear H;go_wp2
     go_meet
     case rel=>exact⟨_,(x0_1),zz3,H',⟨zz111⟩,zz5⟩
    ·rw[if_neg c3]at H;have c3b0:(x0_1.toList==([]:List UInt8))=false:=beq_eq_false_iff_ne.mpr c3;have c3e:x0_1.toList.isEmpty=false:=by cases hz_:x0_1.toList with|nil=>(rw[hz_]at c3b0;exact absurd c3b0 (by decide))|cons _ _=>rfl
     (try rw[c3e]);have c3b1:(x0_1.toList !=([]:List UInt8))=true:=bne_iff_ne.mpr c3;(first|rw[c3b0]|(simp only[i64_w,i32_w];rw[c3b0])|rw[c3b1]|(rw[c3b2];simp only[Bool.not_true,Bool.not_false])|skip)
     by_cases c4:0<(x0_1.size:Int)
     ·rw[if_pos c4]at H;have c4b0:decide (0<(x0_1.size:Int))=true:=decide_eq_true c4;have c4b1:decide (0<x0_1.size)=true:=decide_eq_true (by omega);clear c4;replace H:=Option.bind_eq_some_iff.mp H;obtain⟨t241,A60,H⟩:=H;(try dsimp only at H);have A6:=Aside0.mk A60;clear A60
      by_cases c7:t241=true
      ·subst c7;rw[if_pos rfl]at H
       by_cases c8:1≤(x0_1.size:Int)
       ·rw[if_pos c8]at H;have c8b0:=eq_true c8;have c8b1:decide (1≤(x0_1.size:Int))=true:=decide_eq_true c8;clear c8;have H':=Aside0.mk H;clear H;have p5:0≤(0:Int):=(by omega);have q5:0<x0_1.size:=(by have:(0:Int)<(x0_1.size:Int):=of_decide_eq_true zz7;omega);have hx5: ∀h:0<x0_1.size,((x0_1[0]'h).toNat:Int)=bt x0_1 0:=bt_at x0_1 0;clear p5;have qi5:(0<(x0_1.size:Int))=True:=eq_true (of_decide_eq_true zz7);replace q5:=eq_true q5;go_wp2_with (first|(go_at_call 101;(with_reducible refine(impl_isSpace.calls (bt x0_1 0) true _ A6.out).mono ?_);rintro e w' ⟨rfl,⟨nd,rfl⟩⟩))
        go_roundg k1
        (case measure=>have:=HK1.out;omega);case rel=>exact⟨(x0_1.extract 1 x0_1.size),zz3,H',⟨zz72⟩,zz5⟩
       ·rw[if_neg c8]at H;exact absurd H (by simp)
      ·replace c7:=Bool.eq_false_iff.mpr c7;subst c7;rw[if_neg Bool.false_ne_true]at H;have H':=Aside0.mk H;clear H;have p5:0≤(0:Int):=(by omega);have q5:0<x0_1.size:=(by have:(0:Int)<(x0_1.size:Int):=of_decide_eq_true zz7;omega);have hx5: ∀h:0<x0_1.size,((x0_1[0]'h).toNat:Int)=bt x0_1 0:=bt_at x0_1 0;clear p5;have qi5:(0<(x0_1.size:Int))=True:=eq_true (of_decide_eq_true zz7);replace q5:=eq_true q5;go_wp2_with (first|(go_at_call 101;(with_reducible refine(impl_isSpace.calls (bt x0_1 0) false _ A6.out).mono ?_);rintro e w' ⟨rfl,⟨nd,rfl⟩⟩))
       go_meet
       case rel=>exact⟨_,(x0_1),zz3,H',⟨zz111⟩,zz5⟩
     ·rw[if_neg c4]at H;exact absurd H (by simp)
 case rest=>
  clear HC2;(try clear p2);(try clear c3);(try clear c3b0);(try clear c3b1);(try clear c4);(try clear c4b0);(try clear c4b1);(try clear c5);(try clear p5);(try clear q5);(try clear hx5);(try clear qi5);(try clear c7);(try clear c8);(try clear c8b0);(try clear c8b1);(try clear p2);(try clear p5);(try clear q5);obtain⟨kq,x0_1,rfl,HA,HJ1,⟨mc1,rfl⟩⟩:=hcut
  cases kq with
  |zero=>exact absurd HA.out (by simp[impl_Trim.j1])
  |succ kj1=>
   have H:=HA.out;clear HA;simp only[impl_Trim.j1]at H;have H':=Aside0.mk H;clear H;go_wp2
   go_loopg [0] kj1 (fun kq v0 w'=> ∃(x0_2:ByteArray),v0= .string x0_2∧Aside0 (impl_Trim.l1 kq x0_2=some r)∧Aside0 (kq≤kj1)∧Drawn0 w w')
   case atStart=>exact⟨(x0_1),zz3,H',⟨Nat.le_refl _⟩,zz5⟩
   case round=>
    clear H';(try clear c1);(try clear p2);(try clear c3);(try clear c3b0);(try clear c3b1);(try clear c4);(try clear c4b0);(try clear c4b1);(try clear c5);(try clear p5);(try clear q5);(try clear hx5);(try clear qi5);(try clear c7);(try clear c8);(try clear c8b0);(try clear c8b1);(try clear p2);(try clear p5);(try clear q5);obtain⟨x0_2,rfl,HA,HK2,⟨m2,rfl⟩⟩:=hrel
    cases gk with
    |zero=>exact absurd HA.out (by simp[impl_Trim.l1])
    |succ k2=>
     have H:=HA.out;clear HA;simp only[impl_Trim.l1]at H
     by_cases c9:x0_2.toList=([]:List UInt8)
     ·rw[if_pos c9]at H;have c9b0:(x0_2.toList==([]:List UInt8))=true:=beq_iff_eq.mpr c9;have c9e:x0_2.toList.isEmpty=true:=by have hz_:=beq_iff_eq.1 c9b0;rw[hz_];rfl
      (try rw[c9e]);have c9b1:(x0_2.toList !=([]:List UInt8))=false:=bne_eq_false_iff_eq.mpr c9;clear c9;obtain rfl:=Option.some.inj H;go_wp2
      go_ret;exact⟨zz3,zz5⟩
     ·rw[if_neg c9]at H;have c9b0:(x0_2.toList==([]:List UInt8))=false:=beq_eq_false_iff_ne.mpr c9;have c9e:x0_2.toList.isEmpty=false:=by cases hz_:x0_2.toList with|nil=>(rw[hz_]at c9b0;exact absurd c9b0 (by decide))|cons _ _=>rfl
      (try rw[c9e]);have c9b1:(x0_2.toList !=([]:List UInt8))=true:=bne_iff_ne.mpr c9;obtain⟨ji10,hji10⟩: ∃j_:Int,(wrap64 ((x0_2.size:Int)-1))=j_:=⟨_,rfl⟩;replace H:(if 0≤(ji10)then(if(ji10)<(x0_2.size:Int)then((impl_isSpace.f (bt x0_2 (ji10))).bind fun t242=>(if t242=true then(if(ji10)≤(x0_2.size:Int)then(impl_Trim.l1 k2 (x0_2.extract 0 ((ji10):Int).toNat))else(none))else(some x0_2)))else(none))else(none))=some r:=by first|(rw[hji10]at H;exact H)|(simp only[hji10]at H ⊢;exact H)
      have hji10w:(IntKind.i64.wrap ((x0_2.size:Int)-1))=ji10:=(i64_w _).trans hji10
      by_cases c11:0≤(ji10)
      ·rw[if_pos c11]at H;have c11b0:decide (0≤(ji10))=true:=decide_eq_true c11;clear c11
       by_cases c12:(ji10)<(x0_2.size:Int)
       ·rw[if_pos c12]at H;have c12b0:decide ((ji10)<(x0_2.size:Int))=true:=decide_eq_true c12;clear c12;replace H:=Option.bind_eq_some_iff.mp H;obtain⟨t242,A140,H⟩:=H;(try dsimp only at H);have A14:=Aside0.mk A140;clear A140
        by_cases c15:t242=true
        ·subst c15;rw[if_pos rfl]at H;have c16b0:=eq_true (of_decide_eq_true zz7:0≤(ji10))
         by_cases c17:(ji10)≤(x0_2.size:Int)
         ·rw[if_pos c17]at H;have c17b0:=eq_true c17;have c17b1:decide ((ji10)≤(x0_2.size:Int))=true:=decide_eq_true c17;clear c17;have H':=Aside0.mk H;clear H;have p13:0≤((ji10):Int):=of_decide_eq_true zz7;have q13:(ji10)<(x0_2.size:Int):=of_decide_eq_true zz7;have hx13:=bt_at x0_2 (ji10);replace p13:=eq_true p13;replace q13:=eq_true q13;go_wp2_with (first|(go_at_call 101;(with_reducible refine(impl_isSpace.calls (bt x0_2 (ji10)) true _ A14.out).mono ?_);rintro e w' ⟨rfl,⟨nd,rfl⟩⟩))
          go_roundg k2
          (case measure=>have:=HJ1.out;have:=HK2.out;omega);case rel=>exact⟨(x0_2.extract 0 ((ji10):Int).toNat),(by first|rfl|(simp;done)|(simp only[←hji10]<;>(first|rfl|simp))|(simp[*];done)),H',⟨by have:=HJ1.out;have:=HK2.out;omega⟩,zz5⟩
         ·rw[if_neg c17]at H;exact absurd H (by simp)
        ·replace c15:=Bool.eq_false_iff.mpr c15;subst c15;rw[if_neg Bool.false_ne_true]at H;obtain rfl:=Option.some.inj H;have p13:0≤((ji10):Int):=of_decide_eq_true zz7;have q13:(ji10)<(x0_2.size:Int):=of_decide_eq_true zz7;have hx13:=bt_at x0_2 (ji10);replace p13:=eq_true p13;replace q13:=eq_true q13;go_wp2_with (first|(go_at_call 101;(with_reducible refine(impl_isSpace.calls (bt x0_2 (ji10)) false _ A14.out).mono ?_);rintro e w' ⟨rfl,⟨nd,rfl⟩⟩))
         go_ret;exact⟨by first|rfl|(simp;done)|(simp only[←hji10]<;>(first|rfl|simp))|(simp[*];done),zz5⟩
       ·rw[if_neg c12]at H;exact absurd H (by simp)
      ·rw[if_neg c11]at H;exact absurd H (by simp)
def impl_isUpper.f (a0:Int):Option (Bool):=if a0≥65 then(some (decide (a0≤90)))else(some false)
theorem impl_isUpper.calls (a0:Int) (r:Bool) (w:World) (h:impl_isUpper.f a0=some r):
  Calls Tryz.prog 103 #[.int .u8 a0] w fun e w'=>e= .returned (.bool r)∧Drawn0 w w':=by
 have H:(if a0≥65 then(some (decide (a0≤90)))else(some false))=some r:=h;clear h
 by_cases c2:a0≥65
 ·rw[if_pos c2]at H;have c2b0:decide (65≤a0)=true:=decide_eq_true c2;clear c2;obtain rfl:=Option.some.inj H;go_enter Tryz.func103,Tryz.ntmps103
  go_wp2
  go_ret;exact⟨zz3,zz5⟩
 ·rw[if_neg c2]at H;have c2b0:decide (65≤a0)=false:=decide_eq_false c2;clear c2;obtain rfl:=Option.some.inj H;go_enter Tryz.func103,Tryz.ntmps103
  go_wp2
  go_ret;exact⟨zz3,zz5⟩
def impl_isDigit.f (a0:Int):Option (Bool):=if a0≥48 then(some (decide (a0≤57)))else(some false)
theorem impl_isDigit.calls (a0:Int) (r:Bool) (w:World) (h:impl_isDigit.f a0=some r):
  Calls Tryz.prog 104 #[.int .u8 a0] w fun e w'=>e= .returned (.bool r)∧Drawn0 w w':=by
 have H:(if a0≥48 then(some (decide (a0≤57)))else(some false))=some r:=h;clear h
 by_cases c2:a0≥48
 ·rw[if_pos c2]at H;have c2b0:decide (48≤a0)=true:=decide_eq_true c2;clear c2;obtain rfl:=Option.some.inj H;go_enter Tryz.func104,Tryz.ntmps104
  go_wp2
  go_ret;exact⟨zz3,zz5⟩
 ·rw[if_neg c2]at H;have c2b0:decide (48≤a0)=false:=decide_eq_false c2;clear c2;obtain rfl:=Option.some.inj H;go_enter Tryz.func104,Tryz.ntmps104
  go_wp2
  go_ret;exact⟨zz3,zz5⟩
def impl_isLower.f (a0:Int):Option (Bool):=if a0≥97 then(some (decide (a0≤122)))else(some false)
theorem impl_isLower.calls (a0:Int) (r:Bool) (w:World) (h:impl_isLower.f a0=some r):
  Calls Tryz.prog 131 #[.int .u8 a0] w fun e w'=>e= .returned (.bool r)∧Drawn0 w w':=by
 have H:(if a0≥97 then(some (decide (a0≤122)))else(some false))=some r:=h;clear h
 by_cases c2:a0≥97
 ·rw[if_pos c2]at H;have c2b0:decide (97≤a0)=true:=decide_eq_true c2;clear c2;obtain rfl:=Option.some.inj H;go_enter Tryz.func131,Tryz.ntmps131
  go_wp2
  go_ret;exact⟨zz3,zz5⟩
 ·rw[if_neg c2]at H;have c2b0:decide (97≤a0)=false:=decide_eq_false c2;clear c2;obtain rfl:=Option.some.inj H;go_enter Tryz.func131,Tryz.ntmps131
  go_wp2
  go_ret;exact⟨zz3,zz5⟩
def impl_isTokenByte.f (a0:Int):Option (Bool):=(impl_isLower.f a0).bind fun t243=>(if t243=true then(some true)else((impl_isUpper.f a0).bind fun t244=>(if t244=true then(some true)else((impl_isDigit.f a0).bind fun t245=>(if t245=true then(some true)else(if a0=96 then(some true)else((strings_IndexByte.f (⟨#[33,35,36,37,38,39,42,43,45,46,94,95,124,126]⟩:ByteArray) a0).bind fun t246=>(some (decide (t246≥0))))))))))
theorem impl_isTokenByte.calls (a0:Int) (r:Bool) (w:World) (h:impl_isTokenByte.f a0=some r):
  Calls Tryz.prog 102 #[.int .u8 a0] w fun e w'=>e= .returned (.bool r)∧Drawn0 w w':=by
 have H:((impl_isLower.f a0).bind fun t243=>(if t243=true then(some true)else((impl_isUpper.f a0).bind fun t244=>(if t244=true then(some true)else((impl_isDigit.f a0).bind fun t245=>(if t245=true then(some true)else(if a0=96 then(some true)else((strings_IndexByte.f (⟨#[33,35,36,37,38,39,42,43,45,46,94,95,124,126]⟩:ByteArray) a0).bind fun t246=>(some (decide (t246≥0)))))))))))=some r:=h;clear h;replace H:=Option.bind_eq_some_iff.mp H;obtain⟨t243,A20,H⟩:=H;(try dsimp only at H);have A2:=Aside0.mk A20;clear A20;have HC3:=Aside0.mk H;clear H;go_enter Tryz.func102,Tryz.ntmps102
 repeat' (first|(go_big_may;(first|((with_reducible refine gate_callee (f:=131) rfl ?_);refine goesR_ 4 Tryz.func131 #[.int .u8 a0] (impl_isLower.calls a0 t243 _ A2.out) ?_;rintro w' ⟨nd,rfl⟩)))|go_values|go_skip|go_big_skip|go_big_want|((first|(with_reducible refine gate_nog rfl ?_)|(fail_if_success with_reducible refine gate_any ?_));go_step)|go_upon|simp only[Bool.not_true,Bool.not_false,Bool.true_and,Bool.false_and,Bool.true_or,Bool.false_or]|dsimp only)
 (try simp only[Act.put,List.setIfInBounds_toArray,List.set_cons_zero,List.set_cons_succ]);have H:=HC3.out;clear HC3
 by_cases c4:t243=true
 ·subst c4;rw[if_pos rfl]at H;obtain rfl:=Option.some.inj H;go_wp2
  go_ret;exact⟨zz3,zz5⟩
 ·replace c4:=Bool.eq_false_iff.mpr c4;subst c4;rw[if_neg Bool.false_ne_true]at H;replace H:=Option.bind_eq_some_iff.mp H;obtain⟨t244,A50,H⟩:=H;(try dsimp only at H);have A5:=Aside0.mk A50;clear A50;have HC6:=Aside0.mk H;clear H
  repeat' (first|(go_big_may;(first|(go_at_call 103;(with_reducible refine(impl_isUpper.calls a0 t244 _ A5.out).mono ?_);rintro e w' ⟨rfl,⟨nd,rfl⟩⟩)))|go_values|go_skip|go_big_skip|go_big_want|((first|(with_reducible refine gate_nog rfl ?_)|(fail_if_success with_reducible refine gate_any ?_));go_step)|go_upon|simp only[Bool.not_true,Bool.not_false,Bool.true_and,Bool.false_and,Bool.true_or,Bool.false_or]|dsimp only)
  (try simp only[Act.put,List.setIfInBounds_toArray,List.set_cons_zero,List.set_cons_succ]);have H:=HC6.out;clear HC6
  by_cases c7:t244=true
  ·subst c7;rw[if_pos rfl]at H;obtain rfl:=Option.some.inj H;go_wp2
   go_ret;exact⟨zz3,zz5⟩
  ·replace c7:=Bool.eq_false_iff.mpr c7;subst c7;rw[if_neg Bool.false_ne_true]at H;replace H:=Option.bind_eq_some_iff.mp H;obtain⟨t245,A80,H⟩:=H;(try dsimp only at H);have A8:=Aside0.mk A80;clear A80;have HC9:=Aside0.mk H;clear H
   repeat' (first|(go_big_may;(first|(go_at_call 104;(with_reducible refine(impl_isDigit.calls a0 t245 _ A8.out).mono ?_);rintro e w' ⟨rfl,⟨nd,rfl⟩⟩)))|go_values|go_skip|go_big_skip|go_big_want|((first|(with_reducible refine gate_nog rfl ?_)|(fail_if_success with_reducible refine gate_any ?_));go_step)|go_upon|simp only[Bool.not_true,Bool.not_false,Bool.true_and,Bool.false_and,Bool.true_or,Bool.false_or]|dsimp only)
   (try simp only[Act.put,List.setIfInBounds_toArray,List.set_cons_zero,List.set_cons_succ]);have H:=HC9.out;clear HC9
   by_cases c10:t245=true
   ·subst c10;rw[if_pos rfl]at H;obtain rfl:=Option.some.inj H;go_wp2
    go_ret;exact⟨zz3,zz5⟩
   ·replace c10:=Bool.eq_false_iff.mpr c10;subst c10;rw[if_neg Bool.false_ne_true]at H
    by_cases c11:a0=96
    ·rw[if_pos c11]at H;have c11b0:(a0==96)=true:=beq_iff_eq.mpr c11;have c11b1:(a0 !=96)=false:=bne_eq_false_iff_eq.mpr c11;clear c11;(first|rw[c11b0]|(simp only[i64_w,i32_w];rw[c11b0])|rw[c11b1]|(rw[c11b2];simp only[Bool.not_true,Bool.not_false])|skip);obtain rfl:=Option.some.inj H;go_wp2
     go_ret;exact⟨zz3,zz5⟩
    ·rw[if_neg c11]at H;have c11b0:(a0==96)=false:=beq_eq_false_iff_ne.mpr c11;have c11b1:(a0 !=96)=true:=bne_iff_ne.mpr c11;(first|rw[c11b0]|(simp only[i64_w,i32_w];rw[c11b0])|rw[c11b1]|(rw[c11b2];simp only[Bool.not_true,Bool.not_false])|skip);replace H:=Option.bind_eq_some_iff.mp H;obtain⟨t246,A120,H⟩:=H;(try dsimp only at H);have A12:=Aside0.mk A120;clear A120;obtain rfl:=Option.some.inj H;go_wp2_with (first|(go_at_call 132;(with_reducible refine(strings_IndexByte.calls (⟨#[33,35,36,37,38,39,42,43,45,46,94,95,124,126]⟩:ByteArray) a0 t246 _ A12.out).mono ?_);rintro e w' ⟨rfl,⟨nd,rfl⟩⟩))
     go_ret;exact⟨zz3,zz5⟩
def impl_all__impl_isTokenByte.l0:Nat→ByteArray→Int→Option (Bool)
 |0,_,_=>none
 |k+1,x0,x5=>if x5<(x0.size:Int)then(if 0≤x5 then((impl_isTokenByte.f (bt x0 x5)).bind fun t247=>(if t247=true then(impl_all__impl_isTokenByte.l0 k x0 (wrap64 (x5+1)))else(some false)))else(none))else(some true)
def impl_all__impl_isTokenByte.f (k:Nat) (a0:ByteArray):Option (Bool):=impl_all__impl_isTokenByte.l0 k a0 0
theorem impl_all__impl_isTokenByte.calls (k:Nat) (a0:ByteArray) (r:Bool) (w:World) (h:impl_all__impl_isTokenByte.f k a0=some r):
  Calls Tryz.prog 55 #[.string a0,.func (.func 102) #[] #[]] w fun e w'=>e= .returned (.bool r)∧Drawn0 w w':=by
 have H:(impl_all__impl_isTokenByte.l0 k a0 0)=some r:=h;clear h;have H':=Aside0.mk H;clear H;go_enter Tryz.func55,Tryz.ntmps55
 go_wp2
 go_loopg [5] k (fun kq v5 w'=> ∃(x5_1:Int),v5= .int .i64 x5_1∧Aside0 (impl_all__impl_isTokenByte.l0 kq a0 x5_1=some r)∧Aside0 (kq≤k)∧Drawn0 w w')
 case atStart=>exact⟨(0),zz3,H',⟨Nat.le_refl _⟩,zz5⟩
 case round=>
  clear H';obtain⟨x5_1,rfl,HA,HK1,⟨m1,rfl⟩⟩:=hrel
  cases gk with
  |zero=>exact absurd HA.out (by simp[impl_all__impl_isTokenByte.l0])
  |succ k1=>
   have H:=HA.out;clear HA;simp only[impl_all__impl_isTokenByte.l0]at H
   by_cases c2:x5_1<(a0.size:Int)
   ·rw[if_pos c2]at H;have c2b0:decide (x5_1<(a0.size:Int))=true:=decide_eq_true c2;clear c2
    by_cases c3:0≤x5_1
    ·rw[if_pos c3]at H;have c3b0:decide (0≤x5_1)=true:=decide_eq_true c3;clear c3;replace H:=Option.bind_eq_some_iff.mp H;obtain⟨t247,A50,H⟩:=H;(try dsimp only at H);have A5:=Aside0.mk A50;clear A50;have HC6:=Aside0.mk H;clear H;have p4:0≤(x5_1:Int):=of_decide_eq_true zz7;have q4:x5_1<(a0.size:Int):=of_decide_eq_true zz7;have hx4:=bt_at a0 x5_1;replace p4:=eq_true p4;replace q4:=eq_true q4;go_upto_if 17 with(first|(go_at_call 102;(with_reducible refine(impl_isTokenByte.calls (bt a0 x5_1) t247 _ A5.out).mono ?_);rintro e w' ⟨rfl,⟨nd,rfl⟩⟩))
     (try simp only[Act.put,List.setIfInBounds_toArray,List.set_cons_zero,List.set_cons_succ]);have H:=HC6.out;clear HC6
     by_cases c7:t247=true
     ·subst c7;rw[if_pos rfl]at H;have H':=Aside0.mk H;clear H;go_wp2
      go_roundg k1
      (case measure=>have:=HK1.out;omega);case rel=>exact⟨(wrap64 (x5_1+1)),zz3,H',⟨zz72⟩,zz5⟩
     ·replace c7:=Bool.eq_false_iff.mpr c7;subst c7;rw[if_neg Bool.false_ne_true]at H;obtain rfl:=Option.some.inj H;go_wp2
      go_ret;exact⟨zz3,zz5⟩
    ·rw[if_neg c3]at H;exact absurd H (by simp)
   ·rw[if_neg c2]at H;have c2b0:decide (x5_1<(a0.size:Int))=false:=decide_eq_false c2;clear c2;obtain rfl:=Option.some.inj H;go_wp2
    go_ret;exact⟨zz3,zz5⟩
def impl_Token.f (k:Nat) (a0:ByteArray):Option (Bool):=(impl_within.f (a0.size:Int) 1 4000).bind fun t248=>(if t248=true then((impl_all__impl_isTokenByte.f k a0).bind fun t249=>(some t249))else(some false))
theorem impl_Token.calls (k:Nat) (a0:ByteArray) (r:Bool) (w:World) (h:impl_Token.f k a0=some r):
  Calls Tryz.prog 54 #[.string a0] w fun e w'=>e= .returned (.bool r)∧Drawn0 w w':=by
 have H:((impl_within.f (a0.size:Int) 1 4000).bind fun t248=>(if t248=true then((impl_all__impl_isTokenByte.f k a0).bind fun t249=>(some t249))else(some false)))=some r:=h;clear h;replace H:=Option.bind_eq_some_iff.mp H;obtain⟨t248,A20,H⟩:=H;(try dsimp only at H);have A2:=Aside0.mk A20;clear A20;have HC3:=Aside0.mk H;clear H;go_enter Tryz.func54,Tryz.ntmps54
 repeat' (first|(go_big_may;(first|((with_reducible refine gate_callee (f:=27) rfl ?_);refine goesR_ 5 Tryz.func27 #[.int .i64 (a0.size:Int),.int .i64 1,.int .i64 4000] (impl_within.calls (a0.size:Int) 1 4000 t248 _ A2.out) ?_;rintro w' ⟨nd,rfl⟩)))|go_values|go_skip|go_big_skip|go_big_want|((first|(with_reducible refine gate_nog rfl ?_)|(fail_if_success with_reducible refine gate_any ?_));go_step)|go_upon|simp only[Bool.not_true,Bool.not_false,Bool.true_and,Bool.false_and,Bool.true_or,Bool.false_or]|dsimp only)
 (try simp only[Act.put,List.setIfInBounds_toArray,List.set_cons_zero,List.set_cons_succ]);have H:=HC3.out;clear HC3
 by_cases c4:t248=true
 ·subst c4;rw[if_pos rfl]at H;replace H:=Option.bind_eq_some_iff.mp H;obtain⟨t249,A50,H⟩:=H;(try dsimp only at H);have A5:=Aside0.mk A50;clear A50;obtain rfl:=Option.some.inj H;go_wp2_with (first|(go_at_call 55;(with_reducible refine(impl_all__impl_isTokenByte.calls k a0 t249 _ A5.out).mono ?_);rintro e w' ⟨rfl,⟨nd,rfl⟩⟩))
  go_ret;exact⟨zz3,zz5⟩
 ·replace c4:=Bool.eq_false_iff.mpr c4;subst c4;rw[if_neg Bool.false_ne_true]at H;obtain rfl:=Option.some.inj H;go_wp2
  go_ret;exact⟨zz3,zz5⟩
def impl_isPlain.f (a0:Int):Option (Bool):=if a0=9 then(some true)else(if a0≥32 then(some (a0 !=127))else(some false))
theorem impl_isPlain.calls (a0:Int) (r:Bool) (w:World) (h:impl_isPlain.f a0=some r):
  Calls Tryz.prog 56 #[.int .u8 a0] w fun e w'=>e= .returned (.bool r)∧Drawn0 w w':=by
 have H:(if a0=9 then(some true)else(if a0≥32 then(some (a0 !=127))else(some false)))=some r:=h;clear h
 by_cases c2:a0=9
 ·rw[if_pos c2]at H;have c2b0:(a0==9)=true:=beq_iff_eq.mpr c2;have c2b1:(a0 !=9)=false:=bne_eq_false_iff_eq.mpr c2;clear c2;obtain rfl:=Option.some.inj H;go_enter Tryz.func56,Tryz.ntmps56
  go_wp2
  go_ret;exact⟨zz3,zz5⟩
 ·rw[if_neg c2]at H;have c2b0:(a0==9)=false:=beq_eq_false_iff_ne.mpr c2;have c2b1:(a0 !=9)=true:=bne_iff_ne.mpr c2
  by_cases c3:a0≥32
  ·rw[if_pos c3]at H;have c3b0:decide (32≤a0)=true:=decide_eq_true c3;clear c3;obtain rfl:=Option.some.inj H;go_enter Tryz.func56,Tryz.ntmps56
   go_wp2
   go_ret;exact⟨zz3,zz5⟩
  ·rw[if_neg c3]at H;have c3b0:decide (32≤a0)=false:=decide_eq_false c3;clear c3;obtain rfl:=Option.some.inj H;go_enter Tryz.func56,Tryz.ntmps56
   go_wp2
   go_ret;exact⟨zz3,zz5⟩
theorem impl_Fold_up (x:Int):impl_isUpper.f x=some (decide (65≤x∧x≤90)):=by unfold impl_isUpper.f;split<;>simp<;>omega
def impl_Fold.f (a0:ByteArray):Option (ByteArray):=if a0.size≤1099511627776 then some (strOfNums ((bytesOf a0).map lowI))else none
theorem impl_Fold.calls (a0 r:ByteArray) (w:World) (h:impl_Fold.f a0=some r):
  Calls Tryz.prog 57 #[.string a0] w fun e w'=>e= .returned (.string r)∧Below w.heap.size w w':=by
 have hu24:=Tryz.underlying24;unfold impl_Fold.f at h
 by_cases hlim:a0.size≤1099511627776
 ·rw[if_pos hlim]at h;obtain rfl:=Option.some.inj h;clear h;have HL:=Aside0.mk hlim;clear hlim;have kb:=fun W=>print_bytes (P:=Tryz.prog) 9 24 5 Tryz.underlying9 Tryz.underlying24 Tryz.underlying5 a0 W;go_enter Tryz.func57,Tryz.ntmps57
  go_wp2
  go_loopg [10] (a0.size+1) (fun kq v4 w'=> ∃(x4:Int),v4= .int .i64 x4∧Aside0 (∃j:Nat,x4=(j:Int)∧j≤a0.size∧kq+j=a0.size+1∧BRow w' w.heap.size (lowTo a0 j))∧Aside0 (w.heap.size<w'.heap.size∧Below w.heap.size w w'))
  case atStart=>
   exact⟨0,rfl,⟨0,rfl,by omega,by omega,by rw[lowTo_zero];exact BRow.new _ _ _⟩,⟨by rw[Lib.bytesWorld_size];omega,bytes_below (Below.refl _ _) (Nat.le_refl _) _ _⟩⟩
  case round=>
   obtain⟨x4,rfl,HJ,HB⟩:=hrel;obtain⟨j,hxj,hjl,hkj,hbr⟩:=HJ.out;clear HJ;have HX:=Aside0.mk hxj;have HJL:=Aside0.mk hjl;have HK:=Aside0.mk hkj;have HR:=Aside0.mk hbr;clear hxj hjl hkj hbr
   cases gk with
   |zero=>have:=HK.out;have:=HJL.out;omega
   |succ k1=>
   by_cases hlt:j<a0.size
   ·have c1:decide (x4<(a0.size:Int))=true:=decide_eq_true (by have:=HX.out;omega);have p9:0≤(x4:Int):=by have:=HX.out;omega
    have q9:x4<(a0.size:Int):=of_decide_eq_true c1;have HLT:=Aside0.mk hlt;have hx0:=HR.out.cell x4.toNat zz110;have hfz:=HR.out.frozen x4.toNat zz110;have hbj:(lowTo a0 j).getD x4.toNat 0=(bytesOf a0).getD j 0:=by rw[HX.out,Int.toNat_natCast];exact lowTo_get _ _ hlt
    have hset:=lowTo_set a0 j hlt
    have hsame:(lowTo a0 j).set j ((bytesOf a0).getD j 0)=lowTo a0 j:=by
     rw[←lowTo_get _ _ hlt,List.getD_eq_getElem?_getD,List.getElem?_eq_getElem (by rw[lowTo_length _ _ (by omega)];exact hlt)];exact List.set_getElem_self _
    rw[hbj]at hx0;generalize (bytesOf a0).getD j 0=b at hx0 hset hsame;have HS:=Aside0.mk hset;have HE:=Aside0.mk hsame;clear hlt hset hbj hsame;replace p9:=eq_true p9;replace q9:=eq_true q9;go_wp2_with fail
    refine(impl_isUpper.calls b (decide (65≤b∧b≤90)) _ (impl_Fold_up b)).mono ?_;rintro e w2 ⟨rfl,⟨nd,rfl⟩⟩
    by_cases hup:65≤b∧b≤90
    ·have c2:decide (65≤b∧b≤90)=true:=decide_eq_true hup;have HU:=Aside0.mk hup;rw[c2];clear hup;go_wp2
     go_roundg k1
     case measure=>omega
     case rel=>
      have hx:=HX.out;have hk:=HK.out;have hlt:=HLT.out;have hl:=HL.out;have hu:=HU.out;have hxn:x4.toNat=j:=by omega
      have hlow:lowI b=(b+32)%256:=by unfold lowI;rw[if_pos (by omega),if_pos (by omega)]
      refine⟨_,rfl,⟨j+1,by rw[hx];unfold wrap64;omega,by omega,by omega,?_⟩,⟨?_,?_⟩⟩
      ·rw[←HS.out,hxn,hlow];exact HR.out.set j _
      ·have:=HB.out.1;simpa using this
      ·exact(HB.out.2.trans (pw_below_drewN (Below.refl _ _) nd)).setCell (Nat.le_refl _) _
    ·have c2:decide (65≤b∧b≤90)=false:=decide_eq_false hup;have HU:=Aside0.mk hup;rw[c2];clear hup;go_wp2
     go_roundg k1
     case measure=>omega
     case rel=>
      have hx:=HX.out;have hk:=HK.out;have hlt:=HLT.out;have hl:=HL.out;have hu:=HU.out;have hlow:lowI b=b:=by unfold lowI;split<;>(try split)<;>omega
      refine⟨_,rfl,⟨j+1,by rw[hx];unfold wrap64;omega,by omega,by omega,?_⟩,⟨?_,?_⟩⟩
      ·rw[←HS.out,hlow,HE.out];exact HR.out
      ·have:=HB.out.1;simpa using this
      ·exact HB.out.2.trans (pw_below_drewN (Below.refl _ _) nd)
   ·have c1:decide (x4<(a0.size:Int))=false:=decide_eq_false (by have:=HX.out;omega);have hj2:j=a0.size:=by have:=HJL.out;omega
    have hst:=HR.out.string (P:=Tryz.prog) (c:=grownCap w a0.size 0 5) (src:=24) (dst:=9) Tryz.underlying24 Tryz.underlying5 Tryz.underlying9 (lowTo_length a0 j HJL.out);rw[hj2,lowTo_all]at hst;go_wp2_with fail
    go_ret;exact⟨rfl,HB.out.2⟩
 ·rw[if_neg hlim]at h;cases h
end Go.Proofs.YtnilblnhlpnpgaaGreatDoor.GFnExactGrammar
