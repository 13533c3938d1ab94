-- Printed by gen.py and its programs for this claim.
import Derived.Test.YtnilblnhlpnpgaaGreatDoorGFnTwicex0
import Derived.Test.YtnilblnhlpnpgaaGreatDoorGFnTwicex19
import Derived.Test.YtnilblnhlpnpgaaGreatDoorZFnTwice
namespace Go.Proofs.YtnilblnhlpnpgaaGreatDoor.GFnTwice
open Go.RowKit Go.Proofs.YtnilblnhlpnpgaaGreatDoorW.PrintWords Go.Proofs.YtnilblnhlpnpgaaGreatDoorW.PrintLast Go.Proofs.YtnilblnhlpnpgaaGreatDoorW.PrintMore Go.Proofs.YtnilblnhlpnpgaaGreatDoorW.Zs
set_option maxHeartbeats 40000000
set_option maxRecDepth 100000
attribute [local go_sem] max2_int min2_int max_two min_two max_three min_three max_four min_four
set_option linter.unusedVariables false
set_option linter.unusedSimpArgs false
mutual
def spec_Trim.j1:Nat→ByteArray→Int→Option (ByteArray)
 |0,_,_=>none
 |k+1,x0,x3=>spec_Trim.l1 k x0 x3 (x0.size:Int)
def spec_Trim.l1:Nat→ByteArray→Int→Int→Option (ByteArray)
 |0,_,_,_=>none
 |k+1,x0,x3,x4=>if x4>x3 then(if 0≤(wrap64 (x4-1))then(if(wrap64 (x4-1))<(x0.size:Int)then((spec_l1white.f (bt x0 (wrap64 (x4-1)))).bind fun t561=>(if t561=true then(spec_Trim.l1 k x0 x3 (wrap64 (x4-1)))else(if 0≤x3 then(if x3≤x4 then(if x4≤(x0.size:Int)then(some (x0.extract (x3:Int).toNat (x4:Int).toNat))else(none))else(none))else(none))))else(none))else(none))else(if 0≤x3 then(if x3≤x4 then(if x4≤(x0.size:Int)then(some (x0.extract (x3:Int).toNat (x4:Int).toNat))else(none))else(none))else(none))
def spec_Trim.l0:Nat→ByteArray→Int→Option (ByteArray)
 |0,_,_=>none
 |k+1,x0,x3=>if x3<(x0.size:Int)then(if 0≤x3 then((spec_l1white.f (bt x0 x3)).bind fun t560=>(if t560=true then(spec_Trim.l0 k x0 (wrap64 (x3+1)))else(spec_Trim.j1 k x0 x3)))else(none))else(spec_Trim.j1 k x0 x3)
end
def spec_Trim.f (k:Nat) (a0:ByteArray):Option (ByteArray):=spec_Trim.l0 k a0 0
theorem spec_Trim.calls (k:Nat) (a0 r:ByteArray) (w:World) (h:spec_Trim.f k a0=some r):
  Calls Tryz.prog 47 #[.string a0] w fun e w'=>e= .returned (.string r)∧Drawn0 w w':=by
 have H:(spec_Trim.l0 k a0 0)=some r:=h;clear h;have HC2:=Aside0.mk H;clear H;go_enter Tryz.func47,Tryz.ntmps47
 go_upto_block 0 with(fail)
 go_cut [3] (fun v3 wc=> ∃(kq:Nat) (x3_1:Int),v3= .int .i64 x3_1∧Aside0 (spec_Trim.j1 kq a0 x3_1=some r)∧Aside0 (kq≤k)∧Drawn0 w wc)
 case first=>
  have H:=HC2.out;clear HC2;have H':=Aside0.mk H;clear H;go_wp2
  go_loopg [3] k (fun kq v3 w'=> ∃(x3_1:Int),v3= .int .i64 x3_1∧Aside0 (spec_Trim.l0 kq a0 x3_1=some r)∧Aside0 (kq≤k)∧Drawn0 w w')
  case atStart=>exact⟨(0),zz4,H',⟨Nat.le_refl _⟩,zz7⟩
  case round=>
   clear H';(try clear p2);obtain⟨x3_1,rfl,HA,HK1,⟨m1,rfl⟩⟩:=hrel
   cases gk with
   |zero=>exact absurd HA.out (by simp[spec_Trim.l0])
   |succ k1=>
    have H:=HA.out;clear HA;simp only[spec_Trim.l0]at H
    by_cases c3:x3_1<(a0.size:Int)
    ·rw[if_pos c3]at H;have c3b0:decide (x3_1<(a0.size:Int))=true:=decide_eq_true c3;clear c3;(first|rw[c3b0]|(simp only[i64_w,i32_w];rw[c3b0])|skip)
     by_cases c4:0≤x3_1
     ·rw[if_pos c4]at H;have c4b0:decide (0≤x3_1)=true:=decide_eq_true c4;clear c4;replace H:=Option.bind_eq_some_iff.mp H;obtain⟨t560,A60,H⟩:=H;(try dsimp only at H);have A6:=Aside0.mk A60;clear A60
      by_cases c7:t560=true
      ·subst c7;rw[if_pos rfl]at H;have H':=Aside0.mk H;clear H;have p5:0≤(x3_1:Int):=of_decide_eq_true zz16;have q5:x3_1<(a0.size:Int):=of_decide_eq_true zz16;have hx5:=bt_at a0 x3_1;replace p5:=eq_true p5;replace q5:=eq_true q5;go_wp2_with (first|(go_at_call 94;(with_reducible refine(spec_l1white.calls (bt a0 x3_1) true _ A6.out).mono ?_);rintro e w' ⟨rfl,⟨nd,rfl⟩⟩))
       go_roundg k1
       (case measure=>have:=HK1.out;omega);case rel=>exact⟨(wrap64 (x3_1+1)),zz4,H',⟨zz119⟩,zz7⟩
      ·replace c7:=Bool.eq_false_iff.mpr c7;subst c7;rw[if_neg Bool.false_ne_true]at H;have H':=Aside0.mk H;clear H;have p5:0≤(x3_1:Int):=of_decide_eq_true zz16;have q5:x3_1<(a0.size:Int):=of_decide_eq_true zz16;have hx5:=bt_at a0 x3_1;replace p5:=eq_true p5;replace q5:=eq_true q5;go_wp2_with (first|(go_at_call 94;(with_reducible refine(spec_l1white.calls (bt a0 x3_1) false _ A6.out).mono ?_);rintro e w' ⟨rfl,⟨nd,rfl⟩⟩))
       go_meet
       case rel=>exact⟨_,(x3_1),zz4,H',⟨zz125⟩,zz7⟩
     ·rw[if_neg c4]at H;exact absurd H (by simp)
    ·rw[if_neg c3]at H;have c3b0:decide (x3_1<(a0.size:Int))=false:=decide_eq_false c3;clear c3;(first|rw[c3b0]|(simp only[i64_w,i32_w];rw[c3b0])|skip);have H':=Aside0.mk H;clear H;go_wp2
     go_meet
     case rel=>exact⟨_,(x3_1),zz4,H',⟨zz125⟩,zz7⟩
 case rest=>
  clear HC2;(try clear p2);(try clear c3);(try clear c3b0);(try clear c4);(try clear c4b0);(try clear p5);(try clear q5);(try clear hx5);(try clear p6);(try clear c7);(try clear p2);(try clear p5);(try clear q5);obtain⟨kq,x3_1,rfl,HA,HJ1,⟨mc1,rfl⟩⟩:=hcut
  cases kq with
  |zero=>exact absurd HA.out (by simp[spec_Trim.j1])
  |succ kj1=>
   have H:=HA.out;clear HA;simp only[spec_Trim.j1]at H;have H':=Aside0.mk H;clear H;go_wp2
   go_loopg [4] kj1 (fun kq v4 w'=> ∃(x4_2:Int),v4= .int .i64 x4_2∧Aside0 (spec_Trim.l1 kq a0 x3_1 x4_2=some r)∧Aside0 (kq≤kj1)∧Drawn0 w w')
   case atStart=>exact⟨((a0.size:Int)),zz4,H',⟨Nat.le_refl _⟩,zz7⟩
   case round=>
    clear H';(try clear c1);(try clear p2);(try clear c3);(try clear c3b0);(try clear c4);(try clear c4b0);(try clear p5);(try clear q5);(try clear hx5);(try clear p6);(try clear c7);(try clear p2);(try clear p5);(try clear p6);(try clear q5);obtain⟨x4_2,rfl,HA,HK2,⟨m2,rfl⟩⟩:=hrel
    cases gk with
    |zero=>exact absurd HA.out (by simp[spec_Trim.l1])
    |succ k2=>
     have H:=HA.out;clear HA;simp only[spec_Trim.l1]at H
     by_cases c8:x4_2>x3_1
     ·rw[if_pos c8]at H;have c8b0:decide (x3_1<x4_2)=true:=decide_eq_true c8;clear c8;obtain⟨ji9,hji9⟩: ∃j_:Int,(wrap64 (x4_2-1))=j_:=⟨_,rfl⟩;replace H:(if 0≤(ji9)then(if(ji9)<(a0.size:Int)then((spec_l1white.f (bt a0 (ji9))).bind fun t561=>(if t561=true then(spec_Trim.l1 k2 a0 x3_1 ji9)else(if 0≤x3_1 then(if x3_1≤x4_2 then(if x4_2≤(a0.size:Int)then(some (a0.extract (x3_1:Int).toNat (x4_2:Int).toNat))else(none))else(none))else(none))))else(none))else(none))=some r:=by first|(rw[hji9]at H;exact H)|(simp only[hji9]at H ⊢;exact H)
      have hji9w:(IntKind.i64.wrap (x4_2-1))=ji9:=(i64_w _).trans hji9
      by_cases c10:0≤(ji9)
      ·rw[if_pos c10]at H;have c10b0:decide (0≤(ji9))=true:=decide_eq_true c10;clear c10
       by_cases c11:(ji9)<(a0.size:Int)
       ·rw[if_pos c11]at H;have c11b0:decide ((ji9)<(a0.size:Int))=true:=decide_eq_true c11;clear c11;replace H:=Option.bind_eq_some_iff.mp H;obtain⟨t561,A130,H⟩:=H;(try dsimp only at H);have A13:=Aside0.mk A130;clear A130
        by_cases c14:t561=true
        ·subst c14;rw[if_pos rfl]at H;have H':=Aside0.mk H;clear H;have p12:0≤((ji9):Int):=of_decide_eq_true zz16;have q12:(ji9)<(a0.size:Int):=of_decide_eq_true zz16;have hx12:=bt_at a0 (ji9);replace p12:=eq_true p12;replace q12:=eq_true q12;go_wp2_with (first|(go_at_call 94;(with_reducible refine(spec_l1white.calls (bt a0 (ji9)) true _ A13.out).mono ?_);rintro e w' ⟨rfl,⟨nd,rfl⟩⟩))
         go_roundg k2
         (case measure=>have:=HJ1.out;have:=HK2.out;omega);case rel=>exact⟨(ji9),(by first|rfl|(simp;done)|(simp only[←hji9]<;>(first|rfl|simp))|(simp[*];done)),H',⟨by have:=HJ1.out;have:=HK2.out;omega⟩,zz7⟩
        ·replace c14:=Bool.eq_false_iff.mpr c14;subst c14;rw[if_neg Bool.false_ne_true]at H
         by_cases c15:0≤x3_1
         ·rw[if_pos c15]at H;have c15b0:=eq_true c15;have c15b1:decide (0≤x3_1)=true:=decide_eq_true c15;clear c15
          by_cases c16:x3_1≤x4_2
          ·rw[if_pos c16]at H;have c16b0:=eq_true c16;have c16b1:decide (x3_1≤x4_2)=true:=decide_eq_true c16;clear c16
           by_cases c17:x4_2≤(a0.size:Int)
           ·rw[if_pos c17]at H;have c17b0:=eq_true c17;have c17b1:decide (x4_2≤(a0.size:Int))=true:=decide_eq_true c17;clear c17;obtain rfl:=Option.some.inj H;have p12:0≤((ji9):Int):=of_decide_eq_true zz16;have q12:(ji9)<(a0.size:Int):=of_decide_eq_true zz16;have hx12:=bt_at a0 (ji9);replace p12:=eq_true p12;replace q12:=eq_true q12;go_wp2_with (first|(go_at_call 94;(with_reducible refine(spec_l1white.calls (bt a0 (ji9)) false _ A13.out).mono ?_);rintro e w' ⟨rfl,⟨nd,rfl⟩⟩))
            go_ret;exact⟨by first|rfl|(simp;done)|(simp only[←hji9]<;>(first|rfl|simp))|(simp[*];done),zz7⟩
           ·rw[if_neg c17]at H;exact absurd H (by simp)
          ·rw[if_neg c16]at H;exact absurd H (by simp)
         ·rw[if_neg c15]at H;exact absurd H (by simp)
       ·rw[if_neg c11]at H;exact absurd H (by simp)
      ·rw[if_neg c10]at H;exact absurd H (by simp)
     ·rw[if_neg c8]at H;have c8b0:decide (x3_1<x4_2)=false:=decide_eq_false c8;clear c8
      by_cases c18:0≤x3_1
      ·rw[if_pos c18]at H;have c18b0:=eq_true c18;have c18b1:decide (0≤x3_1)=true:=decide_eq_true c18;clear c18
       by_cases c19:x3_1≤x4_2
       ·rw[if_pos c19]at H;have c19b0:=eq_true c19;have c19b1:decide (x3_1≤x4_2)=true:=decide_eq_true c19;clear c19
        by_cases c20:x4_2≤(a0.size:Int)
        ·rw[if_pos c20]at H;have c20b0:=eq_true c20;have c20b1:decide (x4_2≤(a0.size:Int))=true:=decide_eq_true c20;clear c20;obtain rfl:=Option.some.inj H;go_wp2
         go_ret;exact⟨zz4,zz7⟩
        ·rw[if_neg c20]at H;exact absurd H (by simp)
       ·rw[if_neg c19]at H;exact absurd H (by simp)
      ·rw[if_neg c18]at H;exact absurd H (by simp)
def spec_l1plain.f (a0:Int):Option (Bool):=if a0=9 then(some true)else(if a0≥32 then(some (a0 !=127))else(some false))
theorem spec_l1plain.calls (a0:Int) (r:Bool) (w:World) (h:spec_l1plain.f a0=some r):
  Calls Tryz.prog 95 #[.int .u8 a0] w fun e w'=>e= .returned (.bool r)∧Drawn0 w w':=by
 have H:(if a0=9 then(some true)else(if a0≥32 then(some (a0 !=127))else(some false)))=some r:=h;clear h
 by_cases c2:a0=9
 ·rw[if_pos c2]at H;have c2b0:(a0==9)=true:=beq_iff_eq.mpr c2;have c2b1:(a0 !=9)=false:=bne_eq_false_iff_eq.mpr c2;clear c2;obtain rfl:=Option.some.inj H;go_enter Tryz.func95,Tryz.ntmps95
  go_wp2
  go_ret;exact⟨zz4,zz7⟩
 ·rw[if_neg c2]at H;have c2b0:(a0==9)=false:=beq_eq_false_iff_ne.mpr c2;have c2b1:(a0 !=9)=true:=bne_iff_ne.mpr c2
  by_cases c3:a0≥32
  ·rw[if_pos c3]at H;have c3b0:decide (32≤a0)=true:=decide_eq_true c3;clear c3;obtain rfl:=Option.some.inj H;go_enter Tryz.func95,Tryz.ntmps95
   go_wp2
   go_ret;exact⟨zz4,zz7⟩
  ·rw[if_neg c3]at H;have c3b0:decide (32≤a0)=false:=decide_eq_false c3;clear c3;obtain rfl:=Option.some.inj H;go_enter Tryz.func95,Tryz.ntmps95
   go_wp2
   go_ret;exact⟨zz4,zz7⟩
def spec_l5plain.l0:Nat→ByteArray→Int→Option (Bool)
 |0,_,_=>none
 |k+1,x0,x3=>if x3<(x0.size:Int)then(if 0≤x3 then((spec_l1plain.f (bt x0 x3)).bind fun t562=>(if t562=true then(spec_l5plain.l0 k x0 (wrap64 (x3+1)))else(some false)))else(none))else(some true)
def spec_l5plain.f (k:Nat) (a0:ByteArray):Option (Bool):=spec_l5plain.l0 k a0 0
theorem spec_l5plain.calls (k:Nat) (a0:ByteArray) (r:Bool) (w:World) (h:spec_l5plain.f k a0=some r):
  Calls Tryz.prog 48 #[.string a0] w fun e w'=>e= .returned (.bool r)∧Drawn0 w w':=by
 have H:(spec_l5plain.l0 k a0 0)=some r:=h;clear h;have H':=Aside0.mk H;clear H;go_enter Tryz.func48,Tryz.ntmps48
 go_wp2
 go_loopg [3] k (fun kq v3 w'=> ∃(x3_1:Int),v3= .int .i64 x3_1∧Aside0 (spec_l5plain.l0 kq a0 x3_1=some r)∧Aside0 (kq≤k)∧Drawn0 w w')
 case atStart=>exact⟨(0),zz4,H',⟨Nat.le_refl _⟩,zz7⟩
 case round=>
  clear H';obtain⟨x3_1,rfl,HA,HK1,⟨m1,rfl⟩⟩:=hrel
  cases gk with
  |zero=>exact absurd HA.out (by simp[spec_l5plain.l0])
  |succ k1=>
   have H:=HA.out;clear HA;simp only[spec_l5plain.l0]at H
   by_cases c2:x3_1<(a0.size:Int)
   ·rw[if_pos c2]at H;have c2b0:decide (x3_1<(a0.size:Int))=true:=decide_eq_true c2;clear c2
    by_cases c3:0≤x3_1
    ·rw[if_pos c3]at H;have c3b0:decide (0≤x3_1)=true:=decide_eq_true c3;clear c3;replace H:=Option.bind_eq_some_iff.mp H;obtain⟨t562,A50,H⟩:=H;(try dsimp only at H);have A5:=Aside0.mk A50;clear A50;have HC6:=Aside0.mk H;clear H;have p4:0≤(x3_1:Int):=of_decide_eq_true zz16;have q4:x3_1<(a0.size:Int):=of_decide_eq_true zz16;have hx4:=bt_at a0 x3_1;replace p4:=eq_true p4;replace q4:=eq_true q4;go_upto_if 14 with(first|((with_reducible refine gate_callee (f:=95) rfl ?_);refine goesR_ 13 Tryz.func95 #[.int .u8 (bt a0 x3_1)] (spec_l1plain.calls (bt a0 x3_1) t562 _ A5.out) ?_;rintro w' ⟨nd,rfl⟩))
     (try simp only[Act.put,List.setIfInBounds_toArray,List.set_cons_zero,List.set_cons_succ]);have H:=HC6.out;clear HC6
     by_cases c7:t562=true
     ·subst c7;rw[if_pos rfl]at H;have H':=Aside0.mk H;clear H;go_wp2
      go_roundg k1
      (case measure=>have:=HK1.out;omega);case rel=>exact⟨(wrap64 (x3_1+1)),zz4,H',⟨zz119⟩,zz7⟩
     ·replace c7:=Bool.eq_false_iff.mpr c7;subst c7;rw[if_neg Bool.false_ne_true]at H;obtain rfl:=Option.some.inj H;go_wp2
      go_ret;exact⟨zz4,zz7⟩
    ·rw[if_neg c3]at H;exact absurd H (by simp)
   ·rw[if_neg c2]at H;have c2b0:decide (x3_1<(a0.size:Int))=false:=decide_eq_false c2;clear c2;obtain rfl:=Option.some.inj H;go_wp2
    go_ret;exact⟨zz4,zz7⟩
def spec_FieldOk.f (k:Nat) (a0_0 a0_1:ByteArray):Option (Bool):=if(a0_0.size:Int)≤40 then((spec_Token.f k a0_0).bind fun t564=>(if t564=true then(if(a0_1.size:Int)≤190 then((spec_l5plain.f k a0_1).bind fun t565=>(if t565=true then((spec_Trim.f k a0_1).bind fun t566=>(some (t566.toList==a0_1.toList)))else(some false)))else(some false))else(some false)))else(some false)
theorem spec_FieldOk.calls (k:Nat) (a0_0 a0_1:ByteArray) (r:Bool) (w:World) (h:spec_FieldOk.f k a0_0 a0_1=some r):
  Calls Tryz.prog 78 #[.agg #[.string a0_0,.string a0_1]] w fun e w'=>e= .returned (.bool r)∧Below w.heap.size w w':=by
 have hu82:=Tryz.underlying82;have HB:=Aside0.mk (Below.refl w.heap.size w);have H:(if(a0_0.size:Int)≤40 then((spec_Token.f k a0_0).bind fun t564=>(if t564=true then(if(a0_1.size:Int)≤190 then((spec_l5plain.f k a0_1).bind fun t565=>(if t565=true then((spec_Trim.f k a0_1).bind fun t566=>(some (t566.toList==a0_1.toList)))else(some false)))else(some false))else(some false)))else(some false))=some r:=h;clear h
 by_cases c2:(a0_0.size:Int)≤40
 ·rw[if_pos c2]at H;have c2b0:decide ((a0_0.size:Int)≤40)=true:=decide_eq_true c2;have c2b1:decide (a0_0.size≤40)=true:=decide_eq_true (by omega);clear c2;replace H:=Option.bind_eq_some_iff.mp H;obtain⟨t564,A30,H⟩:=H;(try dsimp only at H);have A3:=Aside0.mk A30;clear A30
  by_cases c4:t564=true
  ·subst c4;rw[if_pos rfl]at H
   by_cases c5:(a0_1.size:Int)≤190
   ·rw[if_pos c5]at H;have c5b0:decide ((a0_1.size:Int)≤190)=true:=decide_eq_true c5;have c5b1:decide (a0_1.size≤190)=true:=decide_eq_true (by omega);clear c5;replace H:=Option.bind_eq_some_iff.mp H;obtain⟨t565,A60,H⟩:=H;(try dsimp only at H);have A6:=Aside0.mk A60;clear A60
    by_cases c7:t565=true
    ·subst c7;rw[if_pos rfl]at H;replace H:=Option.bind_eq_some_iff.mp H;obtain⟨t566,A80,H⟩:=H;(try dsimp only at H);have A8:=Aside0.mk A80;clear A80;obtain rfl:=Option.some.inj H;go_enter Tryz.func78,Tryz.ntmps78
     go_wp2_with (first|((with_reducible refine gate_dst (N:=1) rfl ?_);(try(refine gate_guard (by rfl) ?_;dsimp only));refine boxP_ (N:=1) (cs:= #[.string a0_0,.string a0_1]) (t:=82) ?_;intro gb563 hg w9 hbox hb;have BK563:=Aside0.mk (hbox);have GE563:=geb_ (w:=w) hg zz0;replace HB:=Aside0.mk (below_step zz0 hb);clear hb hbox hg;obtain⟨_,_,_,_⟩:=cells2_ BK563.out)|(go_at_call 46;(with_reducible refine(spec_Token.calls k a0_0 true _ A3.out).mono ?_);rintro e w' ⟨rfl,⟨nd,rfl⟩⟩;(try first|exact⟨rfl,_,World.drewN_drewN _ _ _⟩|exact⟨rfl,_,Eq.trans (World.drewN_drewN _ _ _) (congrArg (World.drewN _) (Nat.add_assoc _ _ _))⟩))|(go_at_call 48;(with_reducible refine(spec_l5plain.calls k a0_1 true _ A6.out).mono ?_);rintro e w' ⟨rfl,⟨nd,rfl⟩⟩;(try first|exact⟨rfl,_,World.drewN_drewN _ _ _⟩|exact⟨rfl,_,Eq.trans (World.drewN_drewN _ _ _) (congrArg (World.drewN _) (Nat.add_assoc _ _ _))⟩))|(go_at_call 47;(with_reducible refine(spec_Trim.calls k a0_1 t566 _ A8.out).mono ?_);rintro e w' ⟨rfl,⟨nd,rfl⟩⟩;(try first|exact⟨rfl,_,World.drewN_drewN _ _ _⟩|exact⟨rfl,_,Eq.trans (World.drewN_drewN _ _ _) (congrArg (World.drewN _) (Nat.add_assoc _ _ _))⟩)))
     repeat(go_quiet (first|((with_reducible refine gate_dst (N:=1) rfl ?_);(try(refine gate_guard (by rfl) ?_;dsimp only));refine boxP_ (N:=1) (cs:= #[.string a0_0,.string a0_1]) (t:=82) ?_;intro gb563 hg w9 hbox hb;have BK563:=Aside0.mk (hbox);have GE563:=geb_ (w:=w) hg zz0;replace HB:=Aside0.mk (below_step zz0 hb);clear hb hbox hg;obtain⟨_,_,_,_⟩:=cells2_ BK563.out)|(go_at_call 46;(with_reducible refine(spec_Token.calls k a0_0 true _ A3.out).mono ?_);rintro e w' ⟨rfl,⟨nd,rfl⟩⟩;(try first|exact⟨rfl,_,World.drewN_drewN _ _ _⟩|exact⟨rfl,_,Eq.trans (World.drewN_drewN _ _ _) (congrArg (World.drewN _) (Nat.add_assoc _ _ _))⟩))|(go_at_call 48;(with_reducible refine(spec_l5plain.calls k a0_1 true _ A6.out).mono ?_);rintro e w' ⟨rfl,⟨nd,rfl⟩⟩;(try first|exact⟨rfl,_,World.drewN_drewN _ _ _⟩|exact⟨rfl,_,Eq.trans (World.drewN_drewN _ _ _) (congrArg (World.drewN _) (Nat.add_assoc _ _ _))⟩))|(go_at_call 47;(with_reducible refine(spec_Trim.calls k a0_1 t566 _ A8.out).mono ?_);rintro e w' ⟨rfl,⟨nd,rfl⟩⟩;(try first|exact⟨rfl,_,World.drewN_drewN _ _ _⟩|exact⟨rfl,_,Eq.trans (World.drewN_drewN _ _ _) (congrArg (World.drewN _) (Nat.add_assoc _ _ _))⟩)));try go_wp2_with (first|((with_reducible refine gate_dst (N:=1) rfl ?_);(try(refine gate_guard (by rfl) ?_;dsimp only));refine boxP_ (N:=1) (cs:= #[.string a0_0,.string a0_1]) (t:=82) ?_;intro gb563 hg w9 hbox hb;have BK563:=Aside0.mk (hbox);have GE563:=geb_ (w:=w) hg zz0;replace HB:=Aside0.mk (below_step zz0 hb);clear hb hbox hg;obtain⟨_,_,_,_⟩:=cells2_ BK563.out)|(go_at_call 46;(with_reducible refine(spec_Token.calls k a0_0 true _ A3.out).mono ?_);rintro e w' ⟨rfl,⟨nd,rfl⟩⟩;(try first|exact⟨rfl,_,World.drewN_drewN _ _ _⟩|exact⟨rfl,_,Eq.trans (World.drewN_drewN _ _ _) (congrArg (World.drewN _) (Nat.add_assoc _ _ _))⟩))|(go_at_call 48;(with_reducible refine(spec_l5plain.calls k a0_1 true _ A6.out).mono ?_);rintro e w' ⟨rfl,⟨nd,rfl⟩⟩;(try first|exact⟨rfl,_,World.drewN_drewN _ _ _⟩|exact⟨rfl,_,Eq.trans (World.drewN_drewN _ _ _) (congrArg (World.drewN _) (Nat.add_assoc _ _ _))⟩))|(go_at_call 47;(with_reducible refine(spec_Trim.calls k a0_1 t566 _ A8.out).mono ?_);rintro e w' ⟨rfl,⟨nd,rfl⟩⟩;(try first|exact⟨rfl,_,World.drewN_drewN _ _ _⟩|exact⟨rfl,_,Eq.trans (World.drewN_drewN _ _ _) (congrArg (World.drewN _) (Nat.add_assoc _ _ _))⟩))))
     go_ret;exact⟨zz1,zz97⟩
    ·replace c7:=Bool.eq_false_iff.mpr c7;subst c7;rw[if_neg Bool.false_ne_true]at H;obtain rfl:=Option.some.inj H;go_enter Tryz.func78,Tryz.ntmps78
     go_wp2_with (first|((with_reducible refine gate_dst (N:=1) rfl ?_);(try(refine gate_guard (by rfl) ?_;dsimp only));refine boxP_ (N:=1) (cs:= #[.string a0_0,.string a0_1]) (t:=82) ?_;intro gb563 hg w11 hbox hb;have BK563:=Aside0.mk (hbox);have GE563:=geb_ (w:=w) hg zz0;replace HB:=Aside0.mk (below_step zz0 hb);clear hb hbox hg;obtain⟨_,_,_,_⟩:=cells2_ BK563.out)|(go_at_call 46;(with_reducible refine(spec_Token.calls k a0_0 true _ A3.out).mono ?_);rintro e w' ⟨rfl,⟨nd,rfl⟩⟩;(try first|exact⟨rfl,_,World.drewN_drewN _ _ _⟩|exact⟨rfl,_,Eq.trans (World.drewN_drewN _ _ _) (congrArg (World.drewN _) (Nat.add_assoc _ _ _))⟩))|(go_at_call 48;(with_reducible refine(spec_l5plain.calls k a0_1 false _ A6.out).mono ?_);rintro e w' ⟨rfl,⟨nd,rfl⟩⟩;(try first|exact⟨rfl,_,World.drewN_drewN _ _ _⟩|exact⟨rfl,_,Eq.trans (World.drewN_drewN _ _ _) (congrArg (World.drewN _) (Nat.add_assoc _ _ _))⟩)))
     repeat(go_quiet (first|((with_reducible refine gate_dst (N:=1) rfl ?_);(try(refine gate_guard (by rfl) ?_;dsimp only));refine boxP_ (N:=1) (cs:= #[.string a0_0,.string a0_1]) (t:=82) ?_;intro gb563 hg w11 hbox hb;have BK563:=Aside0.mk (hbox);have GE563:=geb_ (w:=w) hg zz0;replace HB:=Aside0.mk (below_step zz0 hb);clear hb hbox hg;obtain⟨_,_,_,_⟩:=cells2_ BK563.out)|(go_at_call 46;(with_reducible refine(spec_Token.calls k a0_0 true _ A3.out).mono ?_);rintro e w' ⟨rfl,⟨nd,rfl⟩⟩;(try first|exact⟨rfl,_,World.drewN_drewN _ _ _⟩|exact⟨rfl,_,Eq.trans (World.drewN_drewN _ _ _) (congrArg (World.drewN _) (Nat.add_assoc _ _ _))⟩))|(go_at_call 48;(with_reducible refine(spec_l5plain.calls k a0_1 false _ A6.out).mono ?_);rintro e w' ⟨rfl,⟨nd,rfl⟩⟩;(try first|exact⟨rfl,_,World.drewN_drewN _ _ _⟩|exact⟨rfl,_,Eq.trans (World.drewN_drewN _ _ _) (congrArg (World.drewN _) (Nat.add_assoc _ _ _))⟩)));try go_wp2_with (first|((with_reducible refine gate_dst (N:=1) rfl ?_);(try(refine gate_guard (by rfl) ?_;dsimp only));refine boxP_ (N:=1) (cs:= #[.string a0_0,.string a0_1]) (t:=82) ?_;intro gb563 hg w11 hbox hb;have BK563:=Aside0.mk (hbox);have GE563:=geb_ (w:=w) hg zz0;replace HB:=Aside0.mk (below_step zz0 hb);clear hb hbox hg;obtain⟨_,_,_,_⟩:=cells2_ BK563.out)|(go_at_call 46;(with_reducible refine(spec_Token.calls k a0_0 true _ A3.out).mono ?_);rintro e w' ⟨rfl,⟨nd,rfl⟩⟩;(try first|exact⟨rfl,_,World.drewN_drewN _ _ _⟩|exact⟨rfl,_,Eq.trans (World.drewN_drewN _ _ _) (congrArg (World.drewN _) (Nat.add_assoc _ _ _))⟩))|(go_at_call 48;(with_reducible refine(spec_l5plain.calls k a0_1 false _ A6.out).mono ?_);rintro e w' ⟨rfl,⟨nd,rfl⟩⟩;(try first|exact⟨rfl,_,World.drewN_drewN _ _ _⟩|exact⟨rfl,_,Eq.trans (World.drewN_drewN _ _ _) (congrArg (World.drewN _) (Nat.add_assoc _ _ _))⟩))))
     go_ret;exact⟨zz1,zz97⟩
   ·rw[if_neg c5]at H;have c5b0:decide ((a0_1.size:Int)≤190)=false:=decide_eq_false c5;have c5b1:decide (a0_1.size≤190)=false:=decide_eq_false (by omega);clear c5;obtain rfl:=Option.some.inj H;go_enter Tryz.func78,Tryz.ntmps78
    go_wp2_with (first|((with_reducible refine gate_dst (N:=1) rfl ?_);(try(refine gate_guard (by rfl) ?_;dsimp only));refine boxP_ (N:=1) (cs:= #[.string a0_0,.string a0_1]) (t:=82) ?_;intro gb563 hg w13 hbox hb;have BK563:=Aside0.mk (hbox);have GE563:=geb_ (w:=w) hg zz0;replace HB:=Aside0.mk (below_step zz0 hb);clear hb hbox hg;obtain⟨_,_,_,_⟩:=cells2_ BK563.out)|(go_at_call 46;(with_reducible refine(spec_Token.calls k a0_0 true _ A3.out).mono ?_);rintro e w' ⟨rfl,⟨nd,rfl⟩⟩;(try first|exact⟨rfl,_,World.drewN_drewN _ _ _⟩|exact⟨rfl,_,Eq.trans (World.drewN_drewN _ _ _) (congrArg (World.drewN _) (Nat.add_assoc _ _ _))⟩)))
    repeat(go_quiet (first|((with_reducible refine gate_dst (N:=1) rfl ?_);(try(refine gate_guard (by rfl) ?_;dsimp only));refine boxP_ (N:=1) (cs:= #[.string a0_0,.string a0_1]) (t:=82) ?_;intro gb563 hg w13 hbox hb;have BK563:=Aside0.mk (hbox);have GE563:=geb_ (w:=w) hg zz0;replace HB:=Aside0.mk (below_step zz0 hb);clear hb hbox hg;obtain⟨_,_,_,_⟩:=cells2_ BK563.out)|(go_at_call 46;(with_reducible refine(spec_Token.calls k a0_0 true _ A3.out).mono ?_);rintro e w' ⟨rfl,⟨nd,rfl⟩⟩;(try first|exact⟨rfl,_,World.drewN_drewN _ _ _⟩|exact⟨rfl,_,Eq.trans (World.drewN_drewN _ _ _) (congrArg (World.drewN _) (Nat.add_assoc _ _ _))⟩)));try go_wp2_with (first|((with_reducible refine gate_dst (N:=1) rfl ?_);(try(refine gate_guard (by rfl) ?_;dsimp only));refine boxP_ (N:=1) (cs:= #[.string a0_0,.string a0_1]) (t:=82) ?_;intro gb563 hg w13 hbox hb;have BK563:=Aside0.mk (hbox);have GE563:=geb_ (w:=w) hg zz0;replace HB:=Aside0.mk (below_step zz0 hb);clear hb hbox hg;obtain⟨_,_,_,_⟩:=cells2_ BK563.out)|(go_at_call 46;(with_reducible refine(spec_Token.calls k a0_0 true _ A3.out).mono ?_);rintro e w' ⟨rfl,⟨nd,rfl⟩⟩;(try first|exact⟨rfl,_,World.drewN_drewN _ _ _⟩|exact⟨rfl,_,Eq.trans (World.drewN_drewN _ _ _) (congrArg (World.drewN _) (Nat.add_assoc _ _ _))⟩))))
    go_ret;exact⟨zz1,zz97⟩
  ·replace c4:=Bool.eq_false_iff.mpr c4;subst c4;rw[if_neg Bool.false_ne_true]at H;obtain rfl:=Option.some.inj H;go_enter Tryz.func78,Tryz.ntmps78
   go_wp2_with (first|((with_reducible refine gate_dst (N:=1) rfl ?_);(try(refine gate_guard (by rfl) ?_;dsimp only));refine boxP_ (N:=1) (cs:= #[.string a0_0,.string a0_1]) (t:=82) ?_;intro gb563 hg w15 hbox hb;have BK563:=Aside0.mk (hbox);have GE563:=geb_ (w:=w) hg zz0;replace HB:=Aside0.mk (below_step zz0 hb);clear hb hbox hg;obtain⟨_,_,_,_⟩:=cells2_ BK563.out)|(go_at_call 46;(with_reducible refine(spec_Token.calls k a0_0 false _ A3.out).mono ?_);rintro e w' ⟨rfl,⟨nd,rfl⟩⟩;(try first|exact⟨rfl,_,World.drewN_drewN _ _ _⟩|exact⟨rfl,_,Eq.trans (World.drewN_drewN _ _ _) (congrArg (World.drewN _) (Nat.add_assoc _ _ _))⟩)))
   repeat(go_quiet (first|((with_reducible refine gate_dst (N:=1) rfl ?_);(try(refine gate_guard (by rfl) ?_;dsimp only));refine boxP_ (N:=1) (cs:= #[.string a0_0,.string a0_1]) (t:=82) ?_;intro gb563 hg w15 hbox hb;have BK563:=Aside0.mk (hbox);have GE563:=geb_ (w:=w) hg zz0;replace HB:=Aside0.mk (below_step zz0 hb);clear hb hbox hg;obtain⟨_,_,_,_⟩:=cells2_ BK563.out)|(go_at_call 46;(with_reducible refine(spec_Token.calls k a0_0 false _ A3.out).mono ?_);rintro e w' ⟨rfl,⟨nd,rfl⟩⟩;(try first|exact⟨rfl,_,World.drewN_drewN _ _ _⟩|exact⟨rfl,_,Eq.trans (World.drewN_drewN _ _ _) (congrArg (World.drewN _) (Nat.add_assoc _ _ _))⟩)));try go_wp2_with (first|((with_reducible refine gate_dst (N:=1) rfl ?_);(try(refine gate_guard (by rfl) ?_;dsimp only));refine boxP_ (N:=1) (cs:= #[.string a0_0,.string a0_1]) (t:=82) ?_;intro gb563 hg w15 hbox hb;have BK563:=Aside0.mk (hbox);have GE563:=geb_ (w:=w) hg zz0;replace HB:=Aside0.mk (below_step zz0 hb);clear hb hbox hg;obtain⟨_,_,_,_⟩:=cells2_ BK563.out)|(go_at_call 46;(with_reducible refine(spec_Token.calls k a0_0 false _ A3.out).mono ?_);rintro e w' ⟨rfl,⟨nd,rfl⟩⟩;(try first|exact⟨rfl,_,World.drewN_drewN _ _ _⟩|exact⟨rfl,_,Eq.trans (World.drewN_drewN _ _ _) (congrArg (World.drewN _) (Nat.add_assoc _ _ _))⟩))))
   go_ret;exact⟨zz1,zz97⟩
 ·rw[if_neg c2]at H;have c2b0:decide ((a0_0.size:Int)≤40)=false:=decide_eq_false c2;have c2b1:decide (a0_0.size≤40)=false:=decide_eq_false (by omega);clear c2;obtain rfl:=Option.some.inj H;go_enter Tryz.func78,Tryz.ntmps78
  go_wp2_with (first|((with_reducible refine gate_dst (N:=1) rfl ?_);(try(refine gate_guard (by rfl) ?_;dsimp only));refine boxP_ (N:=1) (cs:= #[.string a0_0,.string a0_1]) (t:=82) ?_;intro gb563 hg w17 hbox hb;have BK563:=Aside0.mk (hbox);have GE563:=geb_ (w:=w) hg zz0;replace HB:=Aside0.mk (below_step zz0 hb);clear hb hbox hg;obtain⟨_,_,_,_⟩:=cells2_ BK563.out))
  repeat(go_quiet (first|((with_reducible refine gate_dst (N:=1) rfl ?_);(try(refine gate_guard (by rfl) ?_;dsimp only));refine boxP_ (N:=1) (cs:= #[.string a0_0,.string a0_1]) (t:=82) ?_;intro gb563 hg w17 hbox hb;have BK563:=Aside0.mk (hbox);have GE563:=geb_ (w:=w) hg zz0;replace HB:=Aside0.mk (below_step zz0 hb);clear hb hbox hg;obtain⟨_,_,_,_⟩:=cells2_ BK563.out));try go_wp2_with (first|((with_reducible refine gate_dst (N:=1) rfl ?_);(try(refine gate_guard (by rfl) ?_;dsimp only));refine boxP_ (N:=1) (cs:= #[.string a0_0,.string a0_1]) (t:=82) ?_;intro gb563 hg w17 hbox hb;have BK563:=Aside0.mk (hbox);have GE563:=geb_ (w:=w) hg zz0;replace HB:=Aside0.mk (below_step zz0 hb);clear hb hbox hg;obtain⟨_,_,_,_⟩:=cells2_ BK563.out)))
  go_ret;exact⟨zz1,zz97⟩
def spec_FieldsOk.l0:Nat→List (S82)→Int→Option (Bool)
 |0,_,_=>none
 |k+1,x0,x3=>if x3<(x0.length:Int)then(if 0≤x3 then((spec_FieldOk.f k ((rd_T82 x0 x3).f0) ((rd_T82 x0 x3).f1)).bind fun t568=>(if t568=true then(spec_FieldsOk.l0 k x0 (wrap64 (x3+1)))else(some false)))else(none))else(some true)
def spec_FieldsOk.f (k:Nat) (l0:List (S82)):Option (Bool):=if(l0.length:Int)>20 then(some false)else(spec_FieldsOk.l0 k l0 0)
theorem spec_FieldsOk.calls (k:Nat) (A0:Option Addr) (c0:Nat) (l0:List (S82)) (r:Bool) (w:World) (hr0:Kd.C k82 w A0 l0.length l0) (hc0:l0.length≤c0) (h:spec_FieldsOk.f k l0=some r):
  Calls Tryz.prog 37 #[.slice A0 l0.length c0] w fun e w'=>e= .returned (.bool r)∧Below w.heap.size w w':=by
 have hu82:=Tryz.underlying82;have HR0:=Aside0.mk hr0;have HC0:=Aside0.mk hc0;clear hr0 hc0;have HB:=Aside0.mk (Below.refl w.heap.size w);have H:(if(l0.length:Int)>20 then(some false)else(spec_FieldsOk.l0 k l0 0))=some r:=h;clear h
 by_cases c2:(l0.length:Int)>20
 ·rw[if_pos c2]at H;have c2b0:decide (20<(l0.length:Int))=true:=decide_eq_true c2;have c2b1:decide (20<l0.length)=true:=decide_eq_true (by omega);clear c2;obtain rfl:=Option.some.inj H;go_enter Tryz.func37,Tryz.ntmps37
  go_wp2
  go_ret;exact⟨zz1,zz0⟩
 ·rw[if_neg c2]at H;have c2b0:decide (20<(l0.length:Int))=false:=decide_eq_false c2;have c2b1:decide (20<l0.length)=false:=decide_eq_false (by omega);clear c2;have H':=Aside0.mk H;clear H;go_enter Tryz.func37,Tryz.ntmps37
  go_wp2
  go_loopg [3] k (fun kq v3 w'=> ∃(x3_1:Int),v3= .int .i64 x3_1∧Aside0 (spec_FieldsOk.l0 kq l0 x3_1=some r)∧Aside0 (kq≤k)∧Aside0 (Below w.heap.size w w'))
  case atStart=>exact⟨(0),zz4,H',⟨Nat.le_refl _⟩,⟨zz0⟩⟩
  case round=>
   clear H';(try clear c2);(try clear c2b0);(try clear c2b1);(try clear p2);obtain⟨x3_1,rfl,HA,HK1,HB⟩:=hrel
   cases gk with
   |zero=>exact absurd HA.out (by simp[spec_FieldsOk.l0])
   |succ k1=>
    have H:=HA.out;clear HA;simp only[spec_FieldsOk.l0]at H
    by_cases c3:x3_1<(l0.length:Int)
    ·rw[if_pos c3]at H;have c3b0:decide (x3_1<(l0.length:Int))=true:=decide_eq_true c3;clear c3
     by_cases c4:0≤x3_1
     ·rw[if_pos c4]at H;have c4b0:decide (0≤x3_1)=true:=decide_eq_true c4;clear c4;replace H:=Option.bind_eq_some_iff.mp H;obtain⟨t568,A50,H⟩:=H;(try dsimp only at H);have A5:=Aside0.mk A50;clear A50;have HC6:=Aside0.mk H;clear H;have p567:0≤(x3_1:Int):=of_decide_eq_true zz16;have q567:x3_1<(l0.length:Int):=of_decide_eq_true zz16;obtain⟨ad567,e567,W567⟩:=at_T82 HR0.out x3_1 p567 q567;cases e567;obtain⟨hx567_0,hx567_1⟩:=El82.up HB.out W567;replace p567:=eq_true p567;replace q567:=eq_true q567;go_upto_if 18 with(first|((with_reducible refine gate_callee (f:=78) rfl ?_);refine goesR_ 17 Tryz.func78 #[.agg #[.string ((rd_T82 l0 x3_1).f0),.string ((rd_T82 l0 x3_1).f1)]] (spec_FieldOk.calls k1 ((rd_T82 l0 x3_1).f0) ((rd_T82 l0 x3_1).f1) t568 _ A5.out) ?_;rintro w7 hb;replace HB:=Aside0.mk (below_step zz0 hb);(try clear hb)))
      (try simp only[Act.put,List.setIfInBounds_toArray,List.set_cons_zero,List.set_cons_succ]);have H:=HC6.out;clear HC6
      by_cases c8:t568=true
      ·subst c8;rw[if_pos rfl]at H;have H':=Aside0.mk H;clear H;go_wp2
       go_roundg k1
       (case measure=>have:=HK1.out;omega);case rel=>exact⟨(wrap64 (x3_1+1)),zz4,H',⟨zz119⟩,⟨zz0⟩⟩
      ·replace c8:=Bool.eq_false_iff.mpr c8;subst c8;rw[if_neg Bool.false_ne_true]at H;obtain rfl:=Option.some.inj H;go_wp2
       go_ret;exact⟨zz1,zz0⟩
     ·rw[if_neg c4]at H;exact absurd H (by simp)
    ·rw[if_neg c3]at H;have c3b0:decide (x3_1<(l0.length:Int))=false:=decide_eq_false c3;clear c3;obtain rfl:=Option.some.inj H;go_wp2
     go_ret;exact⟨zz1,zz0⟩
theorem spec_Fold_low (x:Int):spec_l1lower.f x=some (lowI x):=by unfold spec_l1lower.f lowI;split<;>(try split)<;>rfl
def spec_Fold.f (a0:ByteArray):Option (ByteArray):=if a0.size≤1099511627776 then some (strOfNums ((bytesOf a0).map lowI))else none
theorem spec_Fold.calls (a0 r:ByteArray) (w:World) (h:spec_Fold.f a0=some r):
  Calls Tryz.prog 49 #[.string a0] w fun e w'=>e= .returned (.string r)∧Below w.heap.size w w':=by
 have hu24:=Tryz.underlying24;unfold spec_Fold.f at h
 by_cases hlim:a0.size≤1099511627776
 ·rw[if_pos hlim]at h;obtain rfl:=Option.some.inj h;clear h;have HL:=Aside0.mk hlim;clear hlim;have kb:=fun W=>print_bytes (P:=Tryz.prog) 9 24 5 Tryz.underlying9 Tryz.underlying24 Tryz.underlying5 a0 W;go_enter Tryz.func49,Tryz.ntmps49
  go_wp2
  go_loopg [4] (a0.size+1) (fun kq v4 w'=> ∃(x4:Int),v4= .int .i64 x4∧Aside0 (∃j:Nat,x4=(j:Int)∧j≤a0.size∧kq+j=a0.size+1∧BRow w' w.heap.size (lowTo a0 j))∧Aside0 (w.heap.size<w'.heap.size∧Below w.heap.size w w'))
  case atStart=>
   exact⟨0,rfl,⟨0,rfl,by omega,by omega,by rw[lowTo_zero];exact BRow.new _ _ _⟩,⟨by rw[Lib.bytesWorld_size];omega,bytes_below (Below.refl _ _) (Nat.le_refl _) _ _⟩⟩
  case round=>
   obtain⟨x4,rfl,HJ,HB⟩:=hrel;obtain⟨j,hxj,hjl,hkj,hbr⟩:=HJ.out;clear HJ;have HX:=Aside0.mk hxj;have HJL:=Aside0.mk hjl;have HK:=Aside0.mk hkj;have HR:=Aside0.mk hbr;clear hxj hjl hkj hbr
   cases gk with
   |zero=>have:=HK.out;have:=HJL.out;omega
   |succ k1=>
   by_cases hlt:j<a0.size
   ·have c1:decide (x4<(a0.size:Int))=true:=decide_eq_true zz163;have p9:0≤(x4:Int):=by have:=HX.out;omega
    have q9:x4<(a0.size:Int):=of_decide_eq_true c1;have HLT:=Aside0.mk hlt;have hx0:=HR.out.cell x4.toNat zz161;have hfz:=HR.out.frozen x4.toNat zz161;have hbj:(lowTo a0 j).getD x4.toNat 0=(bytesOf a0).getD j 0:=by rw[HX.out,Int.toNat_natCast];exact lowTo_get _ _ hlt
    have hset:=lowTo_set a0 j hlt;rw[hbj]at hx0;generalize (bytesOf a0).getD j 0=b at hx0 hset;have HS:=Aside0.mk hset;clear hlt hset hbj;replace p9:=eq_true p9;replace q9:=eq_true q9;go_wp2_with fail
    refine(spec_l1lower.calls b (lowI b) _ (spec_Fold_low b)).mono ?_;rintro e w2 ⟨rfl,⟨nd,rfl⟩⟩;go_wp2
    go_roundg k1
    case measure=>omega
    case rel=>
     have hx:=HX.out;have hk:=HK.out;have hlt:=HLT.out;have hl:=HL.out;have hxn:x4.toNat=j:=by omega
     refine⟨_,rfl,⟨j+1,by rw[hx];unfold wrap64;omega,by omega,by omega,?_⟩,⟨?_,?_⟩⟩
     ·rw[←HS.out,hxn];exact HR.out.set j _
     ·have:=HB.out.1;simpa using this
     ·exact(HB.out.2.trans (pw_below_drewN (Below.refl _ _) nd)).setCell (Nat.le_refl _) _
   ·have c1:decide (x4<(a0.size:Int))=false:=decide_eq_false zz163;have hj2:j=a0.size:=by have:=HJL.out;omega
    have hst:=HR.out.string (P:=Tryz.prog) (c:=grownCap w a0.size 0 5) (src:=24) (dst:=9) Tryz.underlying24 Tryz.underlying5 Tryz.underlying9 (lowTo_length a0 j HJL.out);rw[hj2,lowTo_all]at hst;go_wp2_with fail
    go_ret;exact⟨rfl,HB.out.2⟩
 ·rw[if_neg hlim]at h;cases h
end Go.Proofs.YtnilblnhlpnpgaaGreatDoor.GFnTwice
