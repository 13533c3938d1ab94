-- Printed by gen.py and its programs for this claim.
import Derived.Test.YtgkipkifkobjnaaGreatDoorGFnExactRecOkx0
import Derived.Test.YtgkipkifkobjnaaGreatDoorGFnExactRecOkx8
import Derived.Test.YtgkipkifkobjnaaGreatDoorZFnExactRecOk
namespace Go.Proofs.YtgkipkifkobjnaaGreatDoor.GFnExactRecOk
open Go.RowKit Go.Proofs.YtgkipkifkobjnaaGreatDoorW.PrintWords Go.Proofs.YtgkipkifkobjnaaGreatDoorW.PrintLast Go.Proofs.YtgkipkifkobjnaaGreatDoorW.PrintMore Go.Proofs.YtgkipkifkobjnaaGreatDoorW.Zs
set_option maxHeartbeats 40000000
set_option maxRecDepth 100000
attribute [local go_sem] max2_int min2_int max_two min_two max_three min_three max_four min_four
set_option linter.unusedVariables false
set_option linter.unusedSimpArgs false
def spec_ShaOk.f (k:Nat) (l0_0:List Int) (a0_1:ByteArray) (a0_2:Int):Option (Bool):=(spec_l3words.f k l0_0).bind fun t220=>(if t220=true then(if a0_2≥0 then(if a0_2≤999999999999999 then(some ((a0_1.size:Int)==(Int.tmod a0_2 64)))else(some false))else(some false))else(some false))
theorem spec_ShaOk.calls (k:Nat) (A0_0:Option Addr) (c0_0:Nat) (l0_0:List Int) (a0_1:ByteArray) (a0_2:Int) (r:Bool) (w:World) (hr0_0:Kd.C (Kd.int .i64) w A0_0 l0_0.length l0_0) (hc0_0:l0_0.length≤c0_0) (h:spec_ShaOk.f k l0_0 a0_1 a0_2=some r):
  Calls Tryz.prog 53 #[.agg #[.slice A0_0 l0_0.length c0_0,.string a0_1,.int .i64 a0_2]] w fun e w'=>e= .returned (.bool r)∧Below w.heap.size w w':=by
 have hu50:=Tryz.underlying50;have HR0_0:=Aside0.mk hr0_0;have HC0_0:=Aside0.mk hc0_0;clear hr0_0 hc0_0;have HB:=Aside0.mk (Below.refl w.heap.size w);have H:((spec_l3words.f k l0_0).bind fun t220=>(if t220=true then(if a0_2≥0 then(if a0_2≤999999999999999 then(some ((a0_1.size:Int)==(Int.tmod a0_2 64)))else(some false))else(some false))else(some false)))=some r:=h;clear h;replace H:=Option.bind_eq_some_iff.mp H;obtain⟨t220,A20,H⟩:=H;(try dsimp only at H);have A2:=Aside0.mk A20;clear A20;have HC3:=Aside0.mk H;clear H;go_enter Tryz.func53,Tryz.ntmps53
 repeat' (first|(go_big_may;(first|((with_reducible refine gate_dst (N:=1) rfl ?_);(try(refine gate_guard (by rfl) ?_;dsimp only));refine boxP_ (N:=1) (cs:= #[.slice A0_0 l0_0.length c0_0,.string a0_1,.int .i64 a0_2]) (t:=50) ?_;intro gb219 hg w4 hbox hb;have BK219:=Aside0.mk (hbox);have GE219:=geb_ (w:=w) hg zz0;replace HB:=Aside0.mk (below_step zz0 hb);clear hb hbox hg;obtain⟨_,_,_,_,_,_⟩:=cells3_ BK219.out)|((with_reducible refine gate_callee (f:=83) rfl ?_);refine goesQ_ 5 Tryz.func83 #[.slice A0_0 l0_0.length c0_0] ?_;(with_reducible refine(spec_l3words.calls k _ _ l0_0 t220 _ ?side1 ?side2 A2.out).mono ?_);(case side1=>repeat(first|exact(Kd.C_below HR0_0.out HB.out)|(with_reducible refine Kd.C_alloc ?_ _)|(with_reducible refine Kd.C_drewN ?_ _)|(with_reducible refine Kd.C_drew ?_)));(case side2=>exact HC0_0.out);rintro e w' ⟨rfl,⟨nd,rfl⟩⟩;refine⟨_,rfl,?_⟩)))|go_values|go_skip|go_big_skip|go_big_want|((first|(with_reducible refine gate_nog rfl ?_)|(fail_if_success with_reducible refine gate_any ?_));go_step)|go_upon|simp only[Bool.not_true,Bool.not_false,Bool.true_and,Bool.false_and,Bool.true_or,Bool.false_or]|dsimp only)
 (try simp only[Act.put,List.setIfInBounds_toArray,List.set_cons_zero,List.set_cons_succ]);(try(rw[drewN_self w4];generalize hq_:World.drewN w4 _=w4;have n0_:Aside0 (w4.heap[gb219]?=some (.cells #[.slice A0_0 l0_0.length c0_0,.string a0_1,.int .i64 a0_2] 50 (0,0))):=⟨by rw[←hq_];exact(by(with_reducible repeat(first|refine blk_drewN ?_ _|refine blk_drew ?_|refine blk_alloc ?_ _));exact BK219.out)⟩;have n1_:Aside0 (Below w.heap.size w w4):=⟨by rw[←hq_];exact zz45⟩;clear BK219 HB hq_;have BK219:=n0_;have HB:=n1_;clear n0_ n1_;have hcu1:w4.cell? ⟨gb219,0,none⟩=some (.slice A0_0 l0_0.length c0_0):=(blk_cell BK219.out 0).trans rfl;have hfu1:=blk_frozen BK219.out 0;have hcu2:w4.cell? ⟨gb219,1,none⟩=some (.string a0_1):=(blk_cell BK219.out 1).trans rfl;have hfu2:=blk_frozen BK219.out 1;have hcu3:w4.cell? ⟨gb219,2,none⟩=some (.int .i64 a0_2):=(blk_cell BK219.out 2).trans rfl;have hfu3:=blk_frozen BK219.out 2));have H:=HC3.out;clear HC3
 by_cases c6:t220=true
 ·subst c6;rw[if_pos rfl]at H;have HC7:=Aside0.mk H;clear H;obtain⟨_,_,_,_,_,_⟩:=cells3_ BK219.out
  repeat' (first|(go_big_may;(fail))|go_values|go_skip|go_big_skip|go_big_want|((first|(with_reducible refine gate_nog rfl ?_)|(fail_if_success with_reducible refine gate_any ?_));go_step)|go_upon|simp only[Bool.not_true,Bool.not_false,Bool.true_and,Bool.false_and,Bool.true_or,Bool.false_or]|dsimp only)
  have H:=HC7.out;clear HC7
  by_cases c9:a0_2≥0
  ·rw[if_pos c9]at H;have c9b0:decide (0≤a0_2)=true:=decide_eq_true c9;clear c9;(first|rw[c9b0]|(simp only[i64_w,i32_w];rw[c9b0])|skip);have HC10:=Aside0.mk H;clear H;obtain⟨_,_,_,_,_,_⟩:=cells3_ BK219.out
   repeat' (first|(go_big_may;(fail))|go_values|go_skip|go_big_skip|go_big_want|((first|(with_reducible refine gate_nog rfl ?_)|(fail_if_success with_reducible refine gate_any ?_));go_step)|go_upon|simp only[Bool.not_true,Bool.not_false,Bool.true_and,Bool.false_and,Bool.true_or,Bool.false_or]|dsimp only)
   have H:=HC10.out;clear HC10
   by_cases c12:a0_2≤999999999999999
   ·rw[if_pos c12]at H;have c12b0:decide (a0_2≤999999999999999)=true:=decide_eq_true c12;clear c12;(first|rw[c12b0]|(simp only[i64_w,i32_w];rw[c12b0])|skip);obtain rfl:=Option.some.inj H;obtain⟨_,_,_,_,_,_⟩:=cells3_ BK219.out;go_wp2
    go_ret;exact⟨zz2,zz45⟩
   ·rw[if_neg c12]at H;have c12b0:decide (a0_2≤999999999999999)=false:=decide_eq_false c12;clear c12;(first|rw[c12b0]|(simp only[i64_w,i32_w];rw[c12b0])|skip);obtain rfl:=Option.some.inj H;go_wp2
    go_ret;exact⟨zz2,zz45⟩
  ·rw[if_neg c9]at H;have c9b0:decide (0≤a0_2)=false:=decide_eq_false c9;clear c9;(first|rw[c9b0]|(simp only[i64_w,i32_w];rw[c9b0])|skip);obtain rfl:=Option.some.inj H;go_wp2
   go_ret;exact⟨zz2,zz45⟩
 ·replace c6:=Bool.eq_false_iff.mpr c6;subst c6;rw[if_neg Bool.false_ne_true]at H;obtain rfl:=Option.some.inj H;go_wp2
  go_ret;exact⟨zz2,zz45⟩
def spec_l3turn.f (a0 a1:Int):Option (Int):=if 0≤a1 then(if 0≤(wrap64 (32-a1))then(some (Go.bits .and .i64 (Go.bits .or .i64 (shl .i64 a0 a1) (shr .i64 a0 (wrap64 (32-a1)))) 4294967295))else(none))else(none)
theorem spec_l3turn.calls (a0 a1 r:Int) (w:World) (h:spec_l3turn.f a0 a1=some r):
  Calls Tryz.prog 85 #[.int .i64 a0,.int .i64 a1] w fun e w'=>e= .returned (.int .i64 r)∧Drawn0 w w':=by
 have H:(if 0≤a1 then(if 0≤(wrap64 (32-a1))then(some (Go.bits .and .i64 (Go.bits .or .i64 (shl .i64 a0 a1) (shr .i64 a0 (wrap64 (32-a1)))) 4294967295))else(none))else(none))=some r:=h;clear h
 by_cases c3:0≤a1
 ·rw[if_pos c3]at H;have c3b0:=eq_true c3;have c3b1:decide (0≤a1)=true:=decide_eq_true c3;clear c3;obtain⟨ji4,hji4⟩: ∃j_:Int,(shl .i64 a0 a1)=j_:=⟨_,rfl⟩;replace H:(if 0≤(wrap64 (32-a1))then(some (Go.bits .and .i64 (Go.bits .or .i64 (ji4) (shr .i64 a0 (wrap64 (32-a1)))) 4294967295))else(none))=some r:=by first|(rw[hji4]at H;exact H)|(simp only[hji4]at H ⊢;exact H)
  have hji4_:(IntKind.i64.wrap (a0*2^min a1.toNat 64))=ji4:=hji4;have hji4z:a1≤64→(IntKind.i64.wrap (a0*2^a1.toNat))=ji4:=shl_small hji4;have hji4y:(wrap64 (a0*2^min a1.toNat 64))=ji4:=(i64_w _).symm.trans hji4_;have hji4x:a1≤64→(wrap64 (a0*2^a1.toNat))=ji4:=fun h_=>(i64_w _).symm.trans (hji4z h_);obtain⟨ji5,hji5⟩: ∃j_:Int,(wrap64 (32-a1))=j_:=⟨_,rfl⟩;replace H:(if 0≤(ji5)then(some (Go.bits .and .i64 (Go.bits .or .i64 (ji4) (shr .i64 a0 (ji5))) 4294967295))else(none))=some r:=by first|(rw[hji5]at H;exact H)|(simp only[hji5]at H ⊢;exact H)
  have hji5w:(IntKind.i64.wrap (32-a1))=ji5:=(i64_w _).trans hji5
  by_cases c6:0≤(ji5)
  ·rw[if_pos c6]at H;have c6b0:=eq_true c6;have c6b1:decide (0≤(ji5))=true:=decide_eq_true c6;clear c6;obtain⟨ji7,hji7⟩: ∃j_:Int,(shr .i64 a0 (ji5))=j_:=⟨_,rfl⟩;replace H:(some (Go.bits .and .i64 (Go.bits .or .i64 (ji4) (ji7)) 4294967295))=some r:=by first|(rw[hji7]at H;exact H)|(simp only[hji7]at H ⊢;exact H)
   have hji7_:(a0/2^min (ji5).toNat 64)=ji7:=hji7;have hji7z:(ji5)≤64→(a0/2^(ji5).toNat)=ji7:=shr_small hji7;obtain rfl:=Option.some.inj H;go_enter Tryz.func85,Tryz.ntmps85
   go_wp2
   repeat(go_quiet (fail);try go_wp2)
   go_ret;exact⟨by first|rfl|(simp;done)|(simp only[←hji4,←hji5,←hji7]<;>(first|rfl|simp))|(simp[*];done),zz4⟩
  ·rw[if_neg c6]at H;exact absurd H (by simp)
 ·rw[if_neg c3]at H;exact absurd H (by simp)
end Go.Proofs.YtgkipkifkobjnaaGreatDoor.GFnExactRecOk
