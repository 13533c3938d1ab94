-- Printed by gen.py and its programs for this claim.
import Derived.Test.YtgkipkifkobjnaaGreatDoorGFnExactRecOkx0
import Derived.Test.YtgkipkifkobjnaaGreatDoorGFnExactRecOkx17
import Derived.Test.YtgkipkifkobjnaaGreatDoorZFnExactRecOk
namespace Go.Proofs.YtgkipkifkobjnaaGreatDoor.GFnExactRecOk
open Go.RowKit Go.Proofs.YtgkipkifkobjnaaGreatDoorW.PrintWords Go.Proofs.YtgkipkifkobjnaaGreatDoorW.PrintLast Go.Proofs.YtgkipkifkobjnaaGreatDoorW.PrintMore Go.Proofs.YtgkipkifkobjnaaGreatDoorW.Zs
set_option maxHeartbeats 40000000
set_option maxRecDepth 100000
attribute [local go_sem] max2_int min2_int max_two min_two max_three min_three max_four min_four
set_option linter.unusedVariables false
set_option linter.unusedSimpArgs false
def impl_hexOf.j0:Nat→Int→Bool→Option (Int)
 |0,_,_=>none
 |k+1,x0,x9=>if x9=true then(some (((x0-97)%256)+10))else(if x0≥65 then(if x0≤70 then(some (((x0-65)%256)+10))else(some (-1)))else(some (-1)))
def impl_hexOf.f (k:Nat) (a0:Int):Option (Int):=(impl_isDigit.f a0).bind fun t344=>(if t344=true then(some ((a0-48)%256))else(if a0≥97 then(impl_hexOf.j0 k a0 (decide (a0≤102)))else(impl_hexOf.j0 k a0 false)))
theorem impl_hexOf.calls (k:Nat) (a0 r:Int) (w:World) (h:impl_hexOf.f k a0=some r):
  Calls Tryz.prog 116 #[.int .u8 a0] w fun e w'=>e= .returned (.int .i64 r)∧Drawn0 w w':=by
 have H:((impl_isDigit.f a0).bind fun t344=>(if t344=true then(some ((a0-48)%256))else(if a0≥97 then(impl_hexOf.j0 k a0 (decide (a0≤102)))else(impl_hexOf.j0 k a0 false))))=some r:=h;clear h;replace H:=Option.bind_eq_some_iff.mp H;obtain⟨t344,A20,H⟩:=H;(try dsimp only at H);have A2:=Aside0.mk A20;clear A20;have HC3:=Aside0.mk H;clear H;go_enter Tryz.func116,Tryz.ntmps116
 go_upto_if 3 with(first|((with_reducible refine gate_callee (f:=123) rfl ?_);refine goesR_ 5 Tryz.func123 #[.int .u8 a0] (impl_isDigit.calls a0 t344 _ A2.out) ?_;rintro w' ⟨nd,rfl⟩))
 (try simp only[Act.put,List.setIfInBounds_toArray,List.set_cons_zero,List.set_cons_succ]);have H:=HC3.out;clear HC3
 by_cases c4:t344=true
 ·subst c4;rw[if_pos rfl]at H;obtain rfl:=Option.some.inj H;go_wp2
  go_ret;exact⟨zz1,zz4⟩
 ·replace c4:=Bool.eq_false_iff.mpr c4;subst c4;rw[if_neg Bool.false_ne_true]at H;have HC5:=Aside0.mk H;clear H;go_upto_region 3 with(fail)
  go_cut [9] (fun v9 wc=> ∃(kq:Nat) (x9_4:Bool),v9= .bool x9_4∧Aside0 (impl_hexOf.j0 kq a0 x9_4=some r)∧Aside0 (kq≤k)∧Drawn0 w wc)
  case first=>
   have H:=HC5.out;clear HC5
   by_cases c6:a0≥97
   ·rw[if_pos c6]at H;have c6b0:decide (97≤a0)=true:=decide_eq_true c6;clear c6;(first|rw[c6b0]|(simp only[i64_w,i32_w];rw[c6b0])|skip);have H':=Aside0.mk H;clear H;go_wp2
    go_meet
    case rel=>exact⟨_,(decide (a0≤102)),zz1,H',⟨zz23⟩,zz4⟩
   ·rw[if_neg c6]at H;have c6b0:decide (97≤a0)=false:=decide_eq_false c6;clear c6;(first|rw[c6b0]|(simp only[i64_w,i32_w];rw[c6b0])|skip);have H':=Aside0.mk H;clear H;go_wp2
    go_meet
    case rel=>exact⟨_,(false),zz1,H',⟨zz23⟩,zz4⟩
  case rest=>
   clear HC5;(try clear c1);(try clear p2);(try clear c4);(try clear c6);(try clear c6b0);obtain⟨kq,x9_4,rfl,HA,HJ4,⟨mc4,rfl⟩⟩:=hcut
   cases kq with
   |zero=>exact absurd HA.out (by simp[impl_hexOf.j0])
   |succ kj4=>
    have H:=HA.out;clear HA;simp only[impl_hexOf.j0]at H
    by_cases c7:x9_4=true
    ·subst c7;rw[if_pos rfl]at H;obtain rfl:=Option.some.inj H;go_wp2
     go_ret;exact⟨zz1,zz4⟩
    ·replace c7:=Bool.eq_false_iff.mpr c7;subst c7;rw[if_neg Bool.false_ne_true]at H
     by_cases c8:a0≥65
     ·rw[if_pos c8]at H;have c8b0:decide (65≤a0)=true:=decide_eq_true c8;clear c8
      by_cases c9:a0≤70
      ·rw[if_pos c9]at H;have c9b0:decide (a0≤70)=true:=decide_eq_true c9;clear c9;obtain rfl:=Option.some.inj H;go_wp2
       go_ret;exact⟨zz1,zz4⟩
      ·rw[if_neg c9]at H;have c9b0:decide (a0≤70)=false:=decide_eq_false c9;clear c9;obtain rfl:=Option.some.inj H;go_wp2
       go_ret;exact⟨zz1,zz4⟩
     ·rw[if_neg c8]at H;have c8b0:decide (65≤a0)=false:=decide_eq_false c8;clear c8;obtain rfl:=Option.some.inj H;go_wp2
      go_ret;exact⟨zz1,zz4⟩
def impl_isLower.f (a0:Int):Option (Bool):=if a0≥97 then(some (decide (a0≤122)))else(some false)
theorem impl_isLower.calls (a0:Int) (r:Bool) (w:World) (h:impl_isLower.f a0=some r):
  Calls Tryz.prog 122 #[.int .u8 a0] w fun e w'=>e= .returned (.bool r)∧Drawn0 w w':=by
 have H:(if a0≥97 then(some (decide (a0≤122)))else(some false))=some r:=h;clear h
 by_cases c2:a0≥97
 ·rw[if_pos c2]at H;have c2b0:decide (97≤a0)=true:=decide_eq_true c2;clear c2;obtain rfl:=Option.some.inj H;go_enter Tryz.func122,Tryz.ntmps122
  go_wp2
  go_ret;exact⟨zz1,zz4⟩
 ·rw[if_neg c2]at H;have c2b0:decide (97≤a0)=false:=decide_eq_false c2;clear c2;obtain rfl:=Option.some.inj H;go_enter Tryz.func122,Tryz.ntmps122
  go_wp2
  go_ret;exact⟨zz1,zz4⟩
def impl_isFree.f (a0:Int):Option (Bool):=(impl_isLower.f a0).bind fun t345=>(if t345=true then(some true)else((impl_isUpper.f a0).bind fun t346=>(if t346=true then(some true)else((impl_isDigit.f a0).bind fun t347=>(if t347=true then(some true)else(if a0=45 then(some true)else(if a0=46 then(some true)else(if a0=95 then(some true)else(some (a0==126))))))))))
theorem impl_isFree.calls (a0:Int) (r:Bool) (w:World) (h:impl_isFree.f a0=some r):
  Calls Tryz.prog 117 #[.int .u8 a0] w fun e w'=>e= .returned (.bool r)∧Drawn0 w w':=by
 have H:((impl_isLower.f a0).bind fun t345=>(if t345=true then(some true)else((impl_isUpper.f a0).bind fun t346=>(if t346=true then(some true)else((impl_isDigit.f a0).bind fun t347=>(if t347=true then(some true)else(if a0=45 then(some true)else(if a0=46 then(some true)else(if a0=95 then(some true)else(some (a0==126)))))))))))=some r:=h;clear h;replace H:=Option.bind_eq_some_iff.mp H;obtain⟨t345,A20,H⟩:=H;(try dsimp only at H);have A2:=Aside0.mk A20;clear A20;have HC3:=Aside0.mk H;clear H;go_enter Tryz.func117,Tryz.ntmps117
 repeat' (first|(go_big_may;(first|((with_reducible refine gate_callee (f:=122) rfl ?_);refine goesR_ 4 Tryz.func122 #[.int .u8 a0] (impl_isLower.calls a0 t345 _ A2.out) ?_;rintro w' ⟨nd,rfl⟩)))|go_values|go_skip|go_big_skip|go_big_want|((first|(with_reducible refine gate_nog rfl ?_)|(fail_if_success with_reducible refine gate_any ?_));go_step)|go_upon|simp only[Bool.not_true,Bool.not_false,Bool.true_and,Bool.false_and,Bool.true_or,Bool.false_or]|dsimp only)
 (try simp only[Act.put,List.setIfInBounds_toArray,List.set_cons_zero,List.set_cons_succ]);have H:=HC3.out;clear HC3
 by_cases c4:t345=true
 ·subst c4;rw[if_pos rfl]at H;obtain rfl:=Option.some.inj H;go_wp2
  go_ret;exact⟨zz1,zz4⟩
 ·replace c4:=Bool.eq_false_iff.mpr c4;subst c4;rw[if_neg Bool.false_ne_true]at H;replace H:=Option.bind_eq_some_iff.mp H;obtain⟨t346,A50,H⟩:=H;(try dsimp only at H);have A5:=Aside0.mk A50;clear A50;have HC6:=Aside0.mk H;clear H
  repeat' (first|(go_big_may;(first|(go_at_call 88;(with_reducible refine(impl_isUpper.calls a0 t346 _ A5.out).mono ?_);rintro e w' ⟨rfl,⟨nd,rfl⟩⟩)))|go_values|go_skip|go_big_skip|go_big_want|((first|(with_reducible refine gate_nog rfl ?_)|(fail_if_success with_reducible refine gate_any ?_));go_step)|go_upon|simp only[Bool.not_true,Bool.not_false,Bool.true_and,Bool.false_and,Bool.true_or,Bool.false_or]|dsimp only)
  (try simp only[Act.put,List.setIfInBounds_toArray,List.set_cons_zero,List.set_cons_succ]);have H:=HC6.out;clear HC6
  by_cases c7:t346=true
  ·subst c7;rw[if_pos rfl]at H;obtain rfl:=Option.some.inj H;go_wp2
   go_ret;exact⟨zz1,zz4⟩
  ·replace c7:=Bool.eq_false_iff.mpr c7;subst c7;rw[if_neg Bool.false_ne_true]at H;replace H:=Option.bind_eq_some_iff.mp H;obtain⟨t347,A80,H⟩:=H;(try dsimp only at H);have A8:=Aside0.mk A80;clear A80;have HC9:=Aside0.mk H;clear H
   repeat' (first|(go_big_may;(first|(go_at_call 123;(with_reducible refine(impl_isDigit.calls a0 t347 _ A8.out).mono ?_);rintro e w' ⟨rfl,⟨nd,rfl⟩⟩)))|go_values|go_skip|go_big_skip|go_big_want|((first|(with_reducible refine gate_nog rfl ?_)|(fail_if_success with_reducible refine gate_any ?_));go_step)|go_upon|simp only[Bool.not_true,Bool.not_false,Bool.true_and,Bool.false_and,Bool.true_or,Bool.false_or]|dsimp only)
   (try simp only[Act.put,List.setIfInBounds_toArray,List.set_cons_zero,List.set_cons_succ]);have H:=HC9.out;clear HC9
   by_cases c10:t347=true
   ·subst c10;rw[if_pos rfl]at H;obtain rfl:=Option.some.inj H;go_wp2
    go_ret;exact⟨zz1,zz4⟩
   ·replace c10:=Bool.eq_false_iff.mpr c10;subst c10;rw[if_neg Bool.false_ne_true]at H
    by_cases c11:a0=45
    ·rw[if_pos c11]at H;have c11b0:(a0==45)=true:=beq_iff_eq.mpr c11;have c11b1:(a0 !=45)=false:=bne_eq_false_iff_eq.mpr c11;clear c11;(first|rw[c11b0]|(simp only[i64_w,i32_w];rw[c11b0])|rw[c11b1]|(rw[c11b2];simp only[Bool.not_true,Bool.not_false])|skip);obtain rfl:=Option.some.inj H;go_wp2
     go_ret;exact⟨zz1,zz4⟩
    ·rw[if_neg c11]at H;have c11b0:(a0==45)=false:=beq_eq_false_iff_ne.mpr c11;have c11b1:(a0 !=45)=true:=bne_iff_ne.mpr c11;(first|rw[c11b0]|(simp only[i64_w,i32_w];rw[c11b0])|rw[c11b1]|(rw[c11b2];simp only[Bool.not_true,Bool.not_false])|skip)
     by_cases c12:a0=46
     ·rw[if_pos c12]at H;have c12b0:(a0==46)=true:=beq_iff_eq.mpr c12;have c12b1:(a0 !=46)=false:=bne_eq_false_iff_eq.mpr c12;clear c12;obtain rfl:=Option.some.inj H;go_wp2
      go_ret;exact⟨zz1,zz4⟩
     ·rw[if_neg c12]at H;have c12b0:(a0==46)=false:=beq_eq_false_iff_ne.mpr c12;have c12b1:(a0 !=46)=true:=bne_iff_ne.mpr c12
      by_cases c13:a0=95
      ·rw[if_pos c13]at H;have c13b0:(a0==95)=true:=beq_iff_eq.mpr c13;have c13b1:(a0 !=95)=false:=bne_eq_false_iff_eq.mpr c13;clear c13;obtain rfl:=Option.some.inj H;go_wp2
       go_ret;exact⟨zz1,zz4⟩
      ·rw[if_neg c13]at H;have c13b0:(a0==95)=false:=beq_eq_false_iff_ne.mpr c13;have c13b1:(a0 !=95)=true:=bne_iff_ne.mpr c13;obtain rfl:=Option.some.inj H;go_wp2
       go_ret;exact⟨zz1,zz4⟩
end Go.Proofs.YtgkipkifkobjnaaGreatDoor.GFnExactRecOk
