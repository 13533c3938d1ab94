-- Printed by gen.py and its programs for this claim.
import Derived.Test.YthmehmehoehlpaaGreatDoorGFnExactRecTextx0
import Derived.Test.YthmehmehoehlpaaGreatDoorGFnExactRecTextx20
import Derived.Test.YthmehmehoehlpaaGreatDoorZFnExactRecText
namespace Go.Proofs.YthmehmehoehlpaaGreatDoor.GFnExactRecText
open Go.RowKit Go.Proofs.YthmehmehoehlpaaGreatDoorW.PrintWords Go.Proofs.YthmehmehoehlpaaGreatDoorW.PrintLast Go.Proofs.YthmehmehoehlpaaGreatDoorW.PrintMore Go.Proofs.YthmehmehoehlpaaGreatDoorW.Zs
set_option maxHeartbeats 40000000
set_option maxRecDepth 100000
attribute [local go_sem] max2_int min2_int max_two min_two max_three min_three max_four min_four
set_option linter.unusedVariables false
set_option linter.unusedSimpArgs false
def impl_isDigit.f (a0:Int):Option (Bool):=if a0≥48 then(some (decide (a0≤57)))else(some false)
theorem impl_isDigit.calls (a0:Int) (r:Bool) (w:World) (H:impl_isDigit.f a0=some r):
  Calls Tryz.prog 158 #[.int .u8 a0] w fun e w'=>e= .returned (.bool r)∧Drawn0 w w':=by
 unfold impl_isDigit.f at H
 by_cases c0:a0≥48
 ·rw[if_pos c0]at H;have f0:=decide_eq_true c0;clear c0;obtain rfl:=Option.some.inj H;go_enter Tryz.func158,Tryz.ntmps158
  go_wp2
  go_ret;exact⟨zr_,zd_⟩
 ·rw[if_neg c0]at H;have f0:=decide_eq_false c0;clear c0;obtain rfl:=Option.some.inj H;go_enter Tryz.func158,Tryz.ntmps158
  go_wp2
  go_ret;exact⟨zr_,zd_⟩
def impl_hexOf.j0:Nat→Int→Bool→Option (Int)
 |0,_,_=>none
 |k+1,x0,x1=>if x1=true then(some (((x0-97)%256)+10))else(if x0≥65 then(if x0≤70 then(some (((x0-65)%256)+10))else(some (-1)))else(some (-1)))
def impl_hexOf.f (k:Nat) (a0:Int):Option (Int):=(impl_isDigit.f a0).bind fun t0=>(if t0=true then(some ((a0-48)%256))else(if a0≥97 then(impl_hexOf.j0 k a0 (decide (a0≤102)))else(impl_hexOf.j0 k a0 false)))
theorem impl_hexOf.calls (k:Nat) (a0 r:Int) (w:World) (H:impl_hexOf.f k a0=some r):
  Calls Tryz.prog 153 #[.int .u8 a0] w fun e w'=>e= .returned (.int .i64 r)∧Drawn0 w w':=by
 unfold impl_hexOf.f at H;replace H:=bS_ H;obtain⟨t0,A0,H⟩:=H;(try dsimp only at H);have C0:=Aside0.mk H;clear H;go_enter Tryz.func153,Tryz.ntmps153
 go_upto_if 3 with(first|((with_reducible refine gc_ 158 rfl ?_);refine gR 5 Tryz.func158 (impl_isDigit.calls a0 t0 _ A0.out) ?_;rintro w' ⟨nd,rfl⟩))
 (try simp only[Act.put,List.setIfInBounds_toArray,List.set_cons_zero,List.set_cons_succ]);have H:=C0.out;clear C0
 by_cases c0:t0=true
 ·subst c0;rw[if_pos rfl]at H;obtain rfl:=Option.some.inj H;go_wp2
  go_ret;exact⟨zr_,zd_⟩
 ·replace c0:=Bool.eq_false_iff.mpr c0;subst c0;rw[if_neg Bool.false_ne_true]at H;have C1:=Aside0.mk H;clear H;go_upto_region 3 with(fail)
  go_cut [9] (fun v0 wc=> ∃(kq:Nat) (x0:Bool),v0= .bool x0∧Aside0 (impl_hexOf.j0 kq a0 x0=some r)∧Aside0 (kq≤k)∧Drawn0 w wc)
  case first=>
   have H:=C1.out;clear C1
   by_cases c1:a0≥97
   ·rw[if_pos c1]at H;have f0:=decide_eq_true c1;clear c1;(first|rw[f0]|(simp only[i64_w,i32_w];rw[f0])|skip);have H':=Aside0.mk H;clear H;go_wp2
    go_meet
    case rel=>exact⟨_,(decide (a0≤102)),zr_,H',⟨zo_⟩,zd_⟩
   ·rw[if_neg c1]at H;have f0:=decide_eq_false c1;clear c1;(first|rw[f0]|(simp only[i64_w,i32_w];rw[f0])|skip);have H':=Aside0.mk H;clear H;go_wp2
    go_meet
    case rel=>exact⟨_,(false),zr_,H',⟨zo_⟩,zd_⟩
  case rest=>
   clear C1;(try clear c2);(try clear p0);(try clear c0);(try clear c1);(try clear f0);obtain⟨kq,x0,rfl,HA,J0,⟨mc4,rfl⟩⟩:=hcut
   cases kq with
   |zero=>exact absurd HA.out (by simp[impl_hexOf.j0])
   |succ k0=>
    have H:=HA.out;clear HA;simp only[impl_hexOf.j0]at H
    by_cases c3:x0=true
    ·subst c3;rw[if_pos rfl]at H;obtain rfl:=Option.some.inj H;go_wp2
     go_ret;exact⟨zr_,zd_⟩
    ·replace c3:=Bool.eq_false_iff.mpr c3;subst c3;rw[if_neg Bool.false_ne_true]at H
     by_cases c4:a0≥65
     ·rw[if_pos c4]at H;have f1:=decide_eq_true c4;clear c4
      by_cases c5:a0≤70
      ·rw[if_pos c5]at H;have f2:=decide_eq_true c5;clear c5;obtain rfl:=Option.some.inj H;go_wp2
       go_ret;exact⟨zr_,zd_⟩
      ·rw[if_neg c5]at H;have f2:=decide_eq_false c5;clear c5;obtain rfl:=Option.some.inj H;go_wp2
       go_ret;exact⟨zr_,zd_⟩
     ·rw[if_neg c4]at H;have f1:=decide_eq_false c4;clear c4;obtain rfl:=Option.some.inj H;go_wp2
      go_ret;exact⟨zr_,zd_⟩
def impl_isLower.f (a0:Int):Option (Bool):=if a0≥97 then(some (decide (a0≤122)))else(some false)
theorem impl_isLower.calls (a0:Int) (r:Bool) (w:World) (H:impl_isLower.f a0=some r):
  Calls Tryz.prog 157 #[.int .u8 a0] w fun e w'=>e= .returned (.bool r)∧Drawn0 w w':=by
 unfold impl_isLower.f at H
 by_cases c0:a0≥97
 ·rw[if_pos c0]at H;have f0:=decide_eq_true c0;clear c0;obtain rfl:=Option.some.inj H;go_enter Tryz.func157,Tryz.ntmps157
  go_wp2
  go_ret;exact⟨zr_,zd_⟩
 ·rw[if_neg c0]at H;have f0:=decide_eq_false c0;clear c0;obtain rfl:=Option.some.inj H;go_enter Tryz.func157,Tryz.ntmps157
  go_wp2
  go_ret;exact⟨zr_,zd_⟩
def impl_isFree.f (a0:Int):Option (Bool):=(impl_isLower.f a0).bind fun t0=>(if t0=true then(some true)else((impl_isUpper.f a0).bind fun t1=>(if t1=true then(some true)else((impl_isDigit.f a0).bind fun t2=>(if t2=true then(some true)else(if a0=45 then(some true)else(if a0=46 then(some true)else(if a0=95 then(some true)else(some (a0==126))))))))))
theorem impl_isFree.calls (a0:Int) (r:Bool) (w:World) (H:impl_isFree.f a0=some r):
  Calls Tryz.prog 154 #[.int .u8 a0] w fun e w'=>e= .returned (.bool r)∧Drawn0 w w':=by
 unfold impl_isFree.f at H;replace H:=bS_ H;obtain⟨t0,A0,H⟩:=H;(try dsimp only at H);have C0:=Aside0.mk H;clear H;go_enter Tryz.func154,Tryz.ntmps154
 repeat' (first|(go_big_may;(first|((with_reducible refine gc_ 157 rfl ?_);refine gR 4 Tryz.func157 (impl_isLower.calls a0 t0 _ A0.out) ?_;rintro w' ⟨nd,rfl⟩)))|go_values|go_skip|go_big_skip|go_big_want|((first|(with_reducible refine gate_nog rfl ?_)|(fail_if_success with_reducible refine gate_any ?_));go_step)|go_upon|simp only[Bool.not_true,Bool.not_false,Bool.true_and,Bool.false_and,Bool.true_or,Bool.false_or]|dsimp only)
 (try simp only[Act.put,List.setIfInBounds_toArray,List.set_cons_zero,List.set_cons_succ]);have H:=C0.out;clear C0
 by_cases c0:t0=true
 ·subst c0;rw[if_pos rfl]at H;obtain rfl:=Option.some.inj H;go_wp2
  go_ret;exact⟨zr_,zd_⟩
 ·replace c0:=Bool.eq_false_iff.mpr c0;subst c0;rw[if_neg Bool.false_ne_true]at H;replace H:=bS_ H;obtain⟨t1,A1,H⟩:=H;(try dsimp only at H);have C1:=Aside0.mk H;clear H
  repeat' (first|(go_big_may;(first|(go_at_call 121;(with_reducible refine(impl_isUpper.calls a0 t1 _ A1.out).mono ?_);rintro e w' ⟨rfl,⟨nd,rfl⟩⟩)))|go_values|go_skip|go_big_skip|go_big_want|((first|(with_reducible refine gate_nog rfl ?_)|(fail_if_success with_reducible refine gate_any ?_));go_step)|go_upon|simp only[Bool.not_true,Bool.not_false,Bool.true_and,Bool.false_and,Bool.true_or,Bool.false_or]|dsimp only)
  (try simp only[Act.put,List.setIfInBounds_toArray,List.set_cons_zero,List.set_cons_succ]);have H:=C1.out;clear C1
  by_cases c1:t1=true
  ·subst c1;rw[if_pos rfl]at H;obtain rfl:=Option.some.inj H;go_wp2
   go_ret;exact⟨zr_,zd_⟩
  ·replace c1:=Bool.eq_false_iff.mpr c1;subst c1;rw[if_neg Bool.false_ne_true]at H;replace H:=bS_ H;obtain⟨t2,A2,H⟩:=H;(try dsimp only at H);have C2:=Aside0.mk H;clear H
   repeat' (first|(go_big_may;(first|(go_at_call 158;(with_reducible refine(impl_isDigit.calls a0 t2 _ A2.out).mono ?_);rintro e w' ⟨rfl,⟨nd,rfl⟩⟩)))|go_values|go_skip|go_big_skip|go_big_want|((first|(with_reducible refine gate_nog rfl ?_)|(fail_if_success with_reducible refine gate_any ?_));go_step)|go_upon|simp only[Bool.not_true,Bool.not_false,Bool.true_and,Bool.false_and,Bool.true_or,Bool.false_or]|dsimp only)
   (try simp only[Act.put,List.setIfInBounds_toArray,List.set_cons_zero,List.set_cons_succ]);have H:=C2.out;clear C2
   by_cases c2:t2=true
   ·subst c2;rw[if_pos rfl]at H;obtain rfl:=Option.some.inj H;go_wp2
    go_ret;exact⟨zr_,zd_⟩
   ·replace c2:=Bool.eq_false_iff.mpr c2;subst c2;rw[if_neg Bool.false_ne_true]at H
    by_cases c3:a0=45
    ·rw[if_pos c3]at H;obtain⟨f0,f1⟩:=bqT_ c3;clear c3;(first|rw[f0]|(simp only[i64_w,i32_w];rw[f0])|rw[f1]|(rw[f2];simp only[Bool.not_true,Bool.not_false])|skip);obtain rfl:=Option.some.inj H;go_wp2
     go_ret;exact⟨zr_,zd_⟩
    ·rw[if_neg c3]at H;obtain⟨f0,f1⟩:=bqF_ c3;(first|rw[f0]|(simp only[i64_w,i32_w];rw[f0])|rw[f1]|(rw[f2];simp only[Bool.not_true,Bool.not_false])|skip)
     by_cases c4:a0=46
     ·rw[if_pos c4]at H;obtain⟨f3,f4⟩:=bqT_ c4;clear c4;obtain rfl:=Option.some.inj H;go_wp2
      go_ret;exact⟨zr_,zd_⟩
     ·rw[if_neg c4]at H;obtain⟨f3,f4⟩:=bqF_ c4
      by_cases c5:a0=95
      ·rw[if_pos c5]at H;obtain⟨f5,f6⟩:=bqT_ c5;clear c5;obtain rfl:=Option.some.inj H;go_wp2
       go_ret;exact⟨zr_,zd_⟩
      ·rw[if_neg c5]at H;obtain⟨f5,f6⟩:=bqF_ c5;obtain rfl:=Option.some.inj H;go_wp2
       go_ret;exact⟨zr_,zd_⟩
end Go.Proofs.YthmehmehoehlpaaGreatDoor.GFnExactRecText
