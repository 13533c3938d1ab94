-- Printed by gen.py and its programs for this claim.
import Derived.Test.YthmehmehoehlpaaGreatDoorGFnExactRecTextx0
import Derived.Test.YthmehmehoehlpaaGreatDoorGFnExactRecTextx8
import Derived.Test.YthmehmehoehlpaaGreatDoorZFnExactRecText
namespace Go.Proofs.YthmehmehoehlpaaGreatDoor.GFnExactRecText
open Go.RowKit Go.Proofs.YthmehmehoehlpaaGreatDoorW.PrintWords Go.Proofs.YthmehmehoehlpaaGreatDoorW.PrintLast Go.Proofs.YthmehmehoehlpaaGreatDoorW.PrintMore Go.Proofs.YthmehmehoehlpaaGreatDoorW.Zs
set_option maxHeartbeats 40000000
set_option maxRecDepth 100000
attribute [local go_sem] max2_int min2_int max_two min_two max_three min_three max_four min_four
set_option linter.unusedVariables false
set_option linter.unusedSimpArgs false
def spec_ShaOk.f (k:Nat) (l0:List Int) (a0:ByteArray) (a1:Int):Option (Bool):=(spec_l3words.f k l0).bind fun t0=>(if t0=true then(if a1≥0 then(if a1≤999999999999999 then(some ((a0.size:Int)==(Int.tmod a1 64)))else(some false))else(some false))else(some false))
theorem spec_ShaOk.calls (k:Nat) (A0:Option Addr) (c0:Nat) (l0:List Int) (a0:ByteArray) (a1:Int) (r:Bool) (w:World) (h0:Kd.C (Kd.int .i64) w A0 l0.length l0) (hc0_0:l0.length≤c0) (H:spec_ShaOk.f k l0 a0 a1=some r):
  Calls Tryz.prog 80 #[.agg #[.slice A0 l0.length c0,.string a0,.int .i64 a1]] w fun e w'=>e= .returned (.bool r)∧Below w.heap.size w w':=by
 have hu71:=Tryz.underlying71;have HR0_0:=Aside0.mk h0;have C0:=Aside0.mk hc0_0;clear h0 hc0_0;have HB:=Aside0.mk (Below.refl w.heap.size w);unfold spec_ShaOk.f at H;replace H:=bS_ H;obtain⟨t0,A1,H⟩:=H;(try dsimp only at H);have C1:=Aside0.mk H;clear H;go_enter Tryz.func80,Tryz.ntmps80
 repeat' (first|(go_big_may;(first|((with_reducible refine gate_dst (N:=1) rfl ?_);(try(refine gate_guard (by rfl) ?_;dsimp only));refine boxP_ (N:=1) (cs:= #[.slice A0 l0.length c0,.string a0,.int .i64 a1]) (t:=71) ?_;intro g0 hg w0 hbox hb;have B0:=Aside0.mk (hbox);have G0:=geb_ (w:=w) hg zb_;replace HB:=Aside0.mk (below_step zb_ hb);clear hb hbox hg;obtain⟨_,_,_,_,_,_⟩:=cells3_ B0.out)|((with_reducible refine gc_ 116 rfl ?_);refine gR 5 Tryz.func116 (spec_l3words.calls k _ _ l0 t0 _ zz9 C0.out A1.out) ?_;rintro w' ⟨nd,rfl⟩)))|go_values|go_skip|go_big_skip|go_big_want|((first|(with_reducible refine gate_nog rfl ?_)|(fail_if_success with_reducible refine gate_any ?_));go_step)|go_upon|simp only[Bool.not_true,Bool.not_false,Bool.true_and,Bool.false_and,Bool.true_or,Bool.false_or]|dsimp only)
 (try simp only[Act.put,List.setIfInBounds_toArray,List.set_cons_zero,List.set_cons_succ]);(try(rw[drewN_self w0];generalize hq_:World.drewN w0 _=w0;replace B0:=dnB_ hq_ B0;replace HB:=dnH_ hq_ HB;clear hq_;obtain⟨_,_,_,_,_,_⟩:=cells3_ B0.out));have H:=C1.out;clear C1
 by_cases c1:t0=true
 ·subst c1;rw[if_pos rfl]at H;have C2:=Aside0.mk H;clear H;obtain⟨_,_,_,_,_,_⟩:=cells3_ B0.out
  repeat' (first|(go_big_may;(fail))|go_values|go_skip|go_big_skip|go_big_want|((first|(with_reducible refine gate_nog rfl ?_)|(fail_if_success with_reducible refine gate_any ?_));go_step)|go_upon|simp only[Bool.not_true,Bool.not_false,Bool.true_and,Bool.false_and,Bool.true_or,Bool.false_or]|dsimp only)
  have H:=C2.out;clear C2
  by_cases c2:a1≥0
  ·rw[if_pos c2]at H;have f0:=decide_eq_true c2;clear c2;(first|rw[f0]|(simp only[i64_w,i32_w];rw[f0])|skip);have C3:=Aside0.mk H;clear H;obtain⟨_,_,_,_,_,_⟩:=cells3_ B0.out
   repeat' (first|(go_big_may;(fail))|go_values|go_skip|go_big_skip|go_big_want|((first|(with_reducible refine gate_nog rfl ?_)|(fail_if_success with_reducible refine gate_any ?_));go_step)|go_upon|simp only[Bool.not_true,Bool.not_false,Bool.true_and,Bool.false_and,Bool.true_or,Bool.false_or]|dsimp only)
   have H:=C3.out;clear C3
   by_cases c3:a1≤999999999999999
   ·rw[if_pos c3]at H;have f1:=decide_eq_true c3;clear c3;(first|rw[f1]|(simp only[i64_w,i32_w];rw[f1])|skip);obtain rfl:=Option.some.inj H;obtain⟨_,_,_,_,_,_⟩:=cells3_ B0.out;go_wp2
    go_ret;exact⟨ze_,zb_⟩
   ·rw[if_neg c3]at H;have f1:=decide_eq_false c3;clear c3;(first|rw[f1]|(simp only[i64_w,i32_w];rw[f1])|skip);obtain rfl:=Option.some.inj H;go_wp2
    go_ret;exact⟨ze_,zb_⟩
  ·rw[if_neg c2]at H;have f0:=decide_eq_false c2;clear c2;(first|rw[f0]|(simp only[i64_w,i32_w];rw[f0])|skip);obtain rfl:=Option.some.inj H;go_wp2
   go_ret;exact⟨ze_,zb_⟩
 ·replace c1:=Bool.eq_false_iff.mpr c1;subst c1;rw[if_neg Bool.false_ne_true]at H;obtain rfl:=Option.some.inj H;go_wp2
  go_ret;exact⟨ze_,zb_⟩
def spec_l3turn.f (a0 a1:Int):Option (Int):=if 0≤a1 then(if 0≤(wrap64 (32-a1))then(some (Go.bits .and .i64 (Go.bits .or .i64 (shl .i64 a0 a1) (shr .i64 a0 (wrap64 (32-a1)))) 4294967295))else(none))else(none)
theorem spec_l3turn.calls (a0 a1 r:Int) (w:World) (H:spec_l3turn.f a0 a1=some r):
  Calls Tryz.prog 118 #[.int .i64 a0,.int .i64 a1] w fun e w'=>e= .returned (.int .i64 r)∧Drawn0 w w':=by
 unfold spec_l3turn.f at H
 replace H:=ifS_ H;obtain⟨c0,H⟩:=H;obtain⟨f0,f1⟩:=dT_ c0;clear c0;generalize h0:(shl .i64 a0 a1)=j0 at H
 have h1:(IntKind.i64.wrap (a0*2^min a1.toNat 64))=j0:=h0;have h2:a1≤64→(IntKind.i64.wrap (a0*2^a1.toNat))=j0:=shl_small h0;have h3:(wrap64 (a0*2^min a1.toNat 64))=j0:=(i64_w _).symm.trans h1;have h4:a1≤64→(wrap64 (a0*2^a1.toNat))=j0:=fun h_=>(i64_w _).symm.trans (h2 h_);generalize h5:(wrap64 (32-a1))=j1 at H
 have h6:(IntKind.i64.wrap (32-a1))=j1:=(i64_w _).trans h5
 replace H:=ifS_ H;obtain⟨c1,H⟩:=H;obtain⟨f2,f3⟩:=dT_ c1;clear c1;generalize h7:(shr .i64 a0 (j1))=j2 at H
 have h8:(a0/2^min (j1).toNat 64)=j2:=h7;have h9:(j1)≤64→(a0/2^(j1).toNat)=j2:=shr_small h7;obtain rfl:=Option.some.inj H;go_enter Tryz.func118,Tryz.ntmps118
 go_wp2
 repeat(go_quiet (fail);try go_wp2)
 go_ret;exact⟨by first|rfl|(simp;done)|(simp only[←h0,←h5,←h7]<;>(first|rfl|simp))|(simp[*];done),zd_⟩
end Go.Proofs.YthmehmehoehlpaaGreatDoor.GFnExactRecText
