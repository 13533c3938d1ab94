-- Printed by gen.py and its programs for this claim.
import Derived.Test.YtnilblnhlpnpgaaGreatDoorGFnExactGrammarx0
import Derived.Test.YtnilblnhlpnpgaaGreatDoorZFnExactGrammar
namespace Go.Proofs.YtnilblnhlpnpgaaGreatDoor.GFnExactGrammar
open Go.RowKit Go.Proofs.YtnilblnhlpnpgaaGreatDoorW.PrintWords Go.Proofs.YtnilblnhlpnpgaaGreatDoorW.PrintLast Go.Proofs.YtnilblnhlpnpgaaGreatDoorW.PrintMore Go.Proofs.YtnilblnhlpnpgaaGreatDoorW.Zs
set_option maxHeartbeats 40000000
set_option maxRecDepth 100000
attribute [local go_sem] max2_int min2_int max_two min_two max_three min_three max_four min_four
set_option linter.unusedVariables false
set_option linter.unusedSimpArgs false
def impl_daysOf.j0:Nat→Int→Bool→Option (Int)
 |0,_,_=>none
 |k+1,x1,x5=>if x5=true then(some 29)else(if x1=2 then(some 28)else(if x1=4 then(some 30)else(if x1=6 then(some 30)else(if x1=9 then(some 30)else(if x1=11 then(some 30)else(some 31))))))
def impl_daysOf.f (k:Nat) (a0 a1:Int):Option (Int):=if a1=2 then(if(Int.tmod a0 4)=0 then(if(Int.tmod a0 100)=0 then(impl_daysOf.j0 k a1 ((Int.tmod a0 400)==0))else(impl_daysOf.j0 k a1 true))else(impl_daysOf.j0 k a1 ((Int.tmod a0 400)==0)))else(impl_daysOf.j0 k a1 false)
theorem impl_daysOf.calls (k:Nat) (a0 a1 r:Int) (w:World) (h:impl_daysOf.f k a0 a1=some r):
  Calls Tryz.prog 159 #[.int .i64 a0,.int .i64 a1] w fun e w'=>e= .returned (.int .i64 r)∧Drawn0 w w':=by
 have H:(if a1=2 then(if(Int.tmod a0 4)=0 then(if(Int.tmod a0 100)=0 then(impl_daysOf.j0 k a1 ((Int.tmod a0 400)==0))else(impl_daysOf.j0 k a1 true))else(impl_daysOf.j0 k a1 ((Int.tmod a0 400)==0)))else(impl_daysOf.j0 k a1 false))=some r:=h;clear h;have HC3:=Aside0.mk H;clear H;go_enter Tryz.func159,Tryz.ntmps159
 go_upto_region 1 with(fail)
 go_cut [5] (fun v5 wc=> ∃(kq:Nat) (x5_2:Bool),v5= .bool x5_2∧Aside0 (impl_daysOf.j0 kq a1 x5_2=some r)∧Aside0 (kq≤k)∧Drawn0 w wc)
 case first=>
  have H:=HC3.out;clear HC3
  by_cases c4:a1=2
  ·rw[if_pos c4]at H;have c4b0:(a1==2)=true:=beq_iff_eq.mpr c4;have c4b1:(a1 !=2)=false:=bne_eq_false_iff_eq.mpr c4;clear c4;(first|rw[c4b0]|(simp only[i64_w,i32_w];rw[c4b0])|rw[c4b1]|(rw[c4b2];simp only[Bool.not_true,Bool.not_false])|skip)
   by_cases c5:(Int.tmod a0 4)=0
   ·rw[if_pos c5]at H;have c5b0:((Int.tmod a0 4)==0)=true:=beq_iff_eq.mpr c5;have c5b1:((Int.tmod a0 4)!=0)=false:=bne_eq_false_iff_eq.mpr c5;clear c5
    by_cases c6:(Int.tmod a0 100)=0
    ·rw[if_pos c6]at H;have c6b0:((Int.tmod a0 100)==0)=true:=beq_iff_eq.mpr c6;have c6b1:((Int.tmod a0 100)!=0)=false:=bne_eq_false_iff_eq.mpr c6;clear c6;have H':=Aside0.mk H;clear H;go_wp2
     go_meet
     case rel=>exact⟨_,(((Int.tmod a0 400)==0)),zz3,H',⟨zz58⟩,zz5⟩
    ·rw[if_neg c6]at H;have c6b0:((Int.tmod a0 100)==0)=false:=beq_eq_false_iff_ne.mpr c6;have c6b1:((Int.tmod a0 100)!=0)=true:=bne_iff_ne.mpr c6;have H':=Aside0.mk H;clear H;go_wp2
     go_meet
     case rel=>exact⟨_,(true),zz3,H',⟨zz58⟩,zz5⟩
   ·rw[if_neg c5]at H;have c5b0:((Int.tmod a0 4)==0)=false:=beq_eq_false_iff_ne.mpr c5;have c5b1:((Int.tmod a0 4)!=0)=true:=bne_iff_ne.mpr c5;have H':=Aside0.mk H;clear H;go_wp2
    go_meet
    case rel=>exact⟨_,(((Int.tmod a0 400)==0)),zz3,H',⟨zz58⟩,zz5⟩
  ·rw[if_neg c4]at H;have c4b0:(a1==2)=false:=beq_eq_false_iff_ne.mpr c4;have c4b1:(a1 !=2)=true:=bne_iff_ne.mpr c4;(first|rw[c4b0]|(simp only[i64_w,i32_w];rw[c4b0])|rw[c4b1]|(rw[c4b2];simp only[Bool.not_true,Bool.not_false])|skip);have H':=Aside0.mk H;clear H;go_wp2
   go_meet
   case rel=>exact⟨_,(false),zz3,H',⟨zz58⟩,zz5⟩
 case rest=>
  clear HC3;(try clear c1);(try clear p2);(try clear c4);(try clear c4b0);(try clear c4b1);(try clear c5);(try clear c5b0);(try clear c5b1);(try clear c6);(try clear c6b0);(try clear c6b1);obtain⟨kq,x5_2,rfl,HA,HJ2,⟨mc2,rfl⟩⟩:=hcut
  cases kq with
  |zero=>exact absurd HA.out (by simp[impl_daysOf.j0])
  |succ kj2=>
   have H:=HA.out;clear HA;simp only[impl_daysOf.j0]at H
   by_cases c7:x5_2=true
   ·subst c7;rw[if_pos rfl]at H;obtain rfl:=Option.some.inj H;go_wp2
    go_ret;exact⟨zz3,zz5⟩
   ·replace c7:=Bool.eq_false_iff.mpr c7;subst c7;rw[if_neg Bool.false_ne_true]at H
    by_cases c8:a1=2
    ·rw[if_pos c8]at H;have c8b0:(a1==2)=true:=beq_iff_eq.mpr c8;have c8b1:(a1 !=2)=false:=bne_eq_false_iff_eq.mpr c8;clear c8;obtain rfl:=Option.some.inj H;go_wp2
     go_ret;exact⟨zz3,zz5⟩
    ·rw[if_neg c8]at H;have c8b0:(a1==2)=false:=beq_eq_false_iff_ne.mpr c8;have c8b1:(a1 !=2)=true:=bne_iff_ne.mpr c8
     by_cases c9:a1=4
     ·rw[if_pos c9]at H;have c9b0:(a1==4)=true:=beq_iff_eq.mpr c9;have c9b1:(a1 !=4)=false:=bne_eq_false_iff_eq.mpr c9;clear c9;obtain rfl:=Option.some.inj H;go_wp2
      go_ret;exact⟨zz3,zz5⟩
     ·rw[if_neg c9]at H;have c9b0:(a1==4)=false:=beq_eq_false_iff_ne.mpr c9;have c9b1:(a1 !=4)=true:=bne_iff_ne.mpr c9
      by_cases c10:a1=6
      ·rw[if_pos c10]at H;have c10b0:(a1==6)=true:=beq_iff_eq.mpr c10;have c10b1:(a1 !=6)=false:=bne_eq_false_iff_eq.mpr c10;clear c10;obtain rfl:=Option.some.inj H;go_wp2
       go_ret;exact⟨zz3,zz5⟩
      ·rw[if_neg c10]at H;have c10b0:(a1==6)=false:=beq_eq_false_iff_ne.mpr c10;have c10b1:(a1 !=6)=true:=bne_iff_ne.mpr c10
       by_cases c11:a1=9
       ·rw[if_pos c11]at H;have c11b0:(a1==9)=true:=beq_iff_eq.mpr c11;have c11b1:(a1 !=9)=false:=bne_eq_false_iff_eq.mpr c11;clear c11;obtain rfl:=Option.some.inj H;go_wp2
        go_ret;exact⟨zz3,zz5⟩
       ·rw[if_neg c11]at H;have c11b0:(a1==9)=false:=beq_eq_false_iff_ne.mpr c11;have c11b1:(a1 !=9)=true:=bne_iff_ne.mpr c11
        by_cases c12:a1=11
        ·rw[if_pos c12]at H;have c12b0:(a1==11)=true:=beq_iff_eq.mpr c12;have c12b1:(a1 !=11)=false:=bne_eq_false_iff_eq.mpr c12;clear c12;obtain rfl:=Option.some.inj H;go_wp2
         go_ret;exact⟨zz3,zz5⟩
        ·rw[if_neg c12]at H;have c12b0:(a1==11)=false:=beq_eq_false_iff_ne.mpr c12;have c12b1:(a1 !=11)=true:=bne_iff_ne.mpr c12;obtain rfl:=Option.some.inj H;go_wp2
         go_ret;exact⟨zz3,zz5⟩
end Go.Proofs.YtnilblnhlpnpgaaGreatDoor.GFnExactGrammar
