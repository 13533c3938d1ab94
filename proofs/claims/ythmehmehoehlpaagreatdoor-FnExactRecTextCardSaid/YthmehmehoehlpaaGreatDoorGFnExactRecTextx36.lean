-- Printed by gen.py and its programs for this claim.
import Derived.Test.YthmehmehoehlpaaGreatDoorGFnExactRecTextx0
import Derived.Test.YthmehmehoehlpaaGreatDoorGFnExactRecTextx1
import Derived.Test.YthmehmehoehlpaaGreatDoorGFnExactRecTextx20
import Derived.Test.YthmehmehoehlpaaGreatDoorGFnExactRecTextx35
import Derived.Test.YthmehmehoehlpaaGreatDoorZFnExactRecText
namespace Go.Proofs.YthmehmehoehlpaaGreatDoor.GFnExactRecText
open Go.RowKit Go.Proofs.YthmehmehoehlpaaGreatDoorW.PrintWords Go.Proofs.YthmehmehoehlpaaGreatDoorW.PrintLast Go.Proofs.YthmehmehoehlpaaGreatDoorW.PrintMore Go.Proofs.YthmehmehoehlpaaGreatDoorW.Zs
set_option maxHeartbeats 40000000
set_option maxRecDepth 100000
attribute [local go_sem] max2_int min2_int max_two min_two max_three min_three max_four min_four
set_option linter.unusedVariables false
set_option linter.unusedSimpArgs false
def laws_FnExactRecText.f (k:Nat) (a0 a1 a2:Int) (a3:ByteArray) (a4:Int) (a5 a6:ByteArray):Option (Bool):=(laws_szRec.f a0 a1 a2 a3 a4 a5 a6 1048576).bind fun t0=>(if t0<0 then(some true)else((laws_toRec.f a0 a1 a2 a3 a4 a5 a6).bind fun b0=>((spec_RecText.f k b0.1 b0.2.1 b0.2.2.1 b0.2.2.2.1 b0.2.2.2.2.1 b0.2.2.2.2.2.1 b0.2.2.2.2.2.2).bind fun t1=>((laws_toRec.f a0 a1 a2 a3 a4 a5 a6).bind fun b1=>((impl_RecText.f k b1.1 b1.2.1 b1.2.2.1 b1.2.2.2.1 b1.2.2.2.2.1 b1.2.2.2.2.2.1 b1.2.2.2.2.2.2).bind fun t2=>(if t2.toList=t1.toList then(some true)else(some false)))))))
theorem laws_FnExactRecText.calls (k:Nat) (a0 a1 a2:Int) (a3:ByteArray) (a4:Int) (a5 a6:ByteArray) (r:Bool) (w:World) (hG:Gl w) (H:laws_FnExactRecText.f k a0 a1 a2 a3 a4 a5 a6=some r):
  Calls Tryz.prog 3 #[.agg #[.int .i64 a0,.int .i64 a1,.int .i64 a2,.string a3,.int .i64 a4,.string a5,.string a6]] w fun e w'=>e= .returned (.bool r)∧Below w.heap.size w w':=by
 have hu23:=Tryz.underlying23;have HG:=Aside0.mk hG;clear hG;have HB:=Aside0.mk (Below.refl w.heap.size w);unfold laws_FnExactRecText.f at H;replace H:=bS_ H;obtain⟨t0,A0,H⟩:=H;(try dsimp only at H);have C0:=Aside0.mk H;clear H;go_enter Tryz.func3,Tryz.ntmps3
 go_upto_if 10 with(first|((with_reducible refine gate_dst (N:=1) rfl ?_);refine boxP_ (N:=1) (cs:= #[.int .i64 a0,.int .i64 a1,.int .i64 a2,.string a3,.int .i64 a4,.string a5,.string a6]) (t:=23) ?_;intro g0 hg w0 hbox hb;have B0:=Aside0.mk (hbox);have G0:=geb_ (w:=w) hg zb_;replace HB:=Aside0.mk (below_step zb_ hb);clear hb hbox hg;obtain⟨_,_,_,_,_,_,_,_,_,_,_,_,_,_⟩:=cells7_ B0.out)|((with_reducible refine gc_ 4 rfl ?_);refine gR 8 Tryz.func4 (laws_szRec.calls a0 a1 a2 a3 a4 a5 a6 1048576 t0 _ A0.out) ?_;rintro w1 hb;replace B0:=Aside0.mk (blk_below (bk_ B0) hb);replace HB:=Aside0.mk (below_step zb_ hb);(try clear hb)))
 (try simp only[Act.put,List.setIfInBounds_toArray,List.set_cons_zero,List.set_cons_succ]);have H:=C0.out;clear C0
 by_cases c0:t0<0
 ·rw[if_pos c0]at H;have f0:=decide_eq_true c0;clear c0;(first|rw[f0]|(simp only[i64_w,i32_w];rw[f0])|skip);obtain rfl:=Option.some.inj H;go_wp2
  go_ret;exact⟨ze_,zb_⟩
 ·rw[if_neg c0]at H;have f0:=decide_eq_false c0;clear c0;(first|rw[f0]|(simp only[i64_w,i32_w];rw[f0])|skip);replace H:=bS_ H;obtain⟨⟨t1,t2,t3,t4,t5,t6,t7⟩,A1,H⟩:=H;(try dsimp only at H);replace H:=bS_ H;obtain⟨t8,A2,H⟩:=H;(try dsimp only at H);replace H:=bS_ H;obtain⟨⟨t9,t10,t11,t12,t13,t14,t15⟩,A3,H⟩:=H;(try dsimp only at H);replace H:=bS_ H;obtain⟨t16,A4,H⟩:=H;(try dsimp only at H);have C1:=Aside0.mk H;clear H;obtain⟨_,_,_,_,_,_,_,_,_,_,_,_,_,_⟩:=cells7_ B0.out;go_upto_if 19 with(first|((with_reducible refine gc_ 6 rfl ?_);refine gR 12 Tryz.func6 (laws_toRec.calls a0 a1 a2 a3 a4 a5 a6 t1 t2 t3 t4 t5 t6 t7 _ A1.out) ?_;rintro w2 hb;replace B0:=Aside0.mk (blk_below (bk_ B0) hb);replace HB:=Aside0.mk (below_step zb_ hb);(try clear hb))|((with_reducible refine gc_ 5 rfl ?_);refine gR 13 Tryz.func5 (spec_RecText.calls k t1 t2 t3 t4 t5 t6 t7 t8 _ A2.out) ?_;rintro w3 hb;replace B0:=Aside0.mk (blk_below (bk_ B0) hb);replace HB:=Aside0.mk (below_step zb_ hb);(try clear hb);obtain⟨_,_,_,_,_,_,_,_,_,_,_,_,_,_⟩:=cells7_ B0.out)|((with_reducible refine gc_ 6 rfl ?_);refine gR 15 Tryz.func6 (laws_toRec.calls a0 a1 a2 a3 a4 a5 a6 t9 t10 t11 t12 t13 t14 t15 _ A3.out) ?_;rintro w4 hb;replace B0:=Aside0.mk (blk_below (bk_ B0) hb);replace HB:=Aside0.mk (below_step zb_ hb);(try clear hb))|((with_reducible refine gc_ 7 rfl ?_);refine gR 16 Tryz.func7 (impl_RecText.calls k t9 t10 t11 t12 t13 t14 t15 t16 _ (Gl.below HG.out zb_) A4.out) ?_;rintro w5 hb;replace B0:=Aside0.mk (blk_below (bk_ B0) hb);replace HB:=Aside0.mk (below_step zb_ hb);(try clear hb)))
  (try simp only[Act.put,List.setIfInBounds_toArray,List.set_cons_zero,List.set_cons_succ]);have H:=C1.out;clear C1
  by_cases c1:t16.toList=t8.toList
  ·rw[if_pos c1]at H;obtain⟨f1,f2⟩:=bqT_ c1;clear c1;(first|rw[f1]|(simp only[i64_w,i32_w];rw[f1])|rw[f2]|(rw[f3];simp only[Bool.not_true,Bool.not_false])|skip);obtain rfl:=Option.some.inj H;go_wp2
   go_ret;exact⟨ze_,zb_⟩
  ·rw[if_neg c1]at H;obtain⟨f1,f2⟩:=bqF_ c1;(first|rw[f1]|(simp only[i64_w,i32_w];rw[f1])|rw[f2]|(rw[f3];simp only[Bool.not_true,Bool.not_false])|skip);obtain rfl:=Option.some.inj H;go_wp2
   go_ret;exact⟨ze_,zb_⟩
def laws_FnExactRecText.Pure:Prop:= ∀(a0 a1 a2:Int) (a3:ByteArray) (a4:Int) (a5 a6:ByteArray),(((Lit.int .i64 a0).wf=true)∧((Lit.int .i64 a1).wf=true)∧((Lit.int .i64 a2).wf=true)∧(a3.size≤9223372036854775807)∧((Lit.int .i64 a4).wf=true)∧(a5.size≤9223372036854775807)∧(a6.size≤9223372036854775807))→ ∃k,laws_FnExactRecText.f k a0 a1 a2 a3 a4 a5 a6=some true
theorem laws_FnExactRecText.walk (P:laws_FnExactRecText.Pure) (a0 a1 a2:Int) (a3:ByteArray) (a4:Int) (a5 a6:ByteArray) (w:World) (hG:Gl w) (ok_0:((Lit.int .i64 a0).wf=true)∧((Lit.int .i64 a1).wf=true)∧((Lit.int .i64 a2).wf=true)∧(a3.size≤9223372036854775807)∧((Lit.int .i64 a4).wf=true)∧(a5.size≤9223372036854775807)∧(a6.size≤9223372036854775807)):
  Calls Tryz.prog 3 #[.agg #[.int .i64 a0,.int .i64 a1,.int .i64 a2,.string a3,.int .i64 a4,.string a5,.string a6]] w fun e w'=>e= .returned (.bool true)∧Below w.heap.size w w':=by
 obtain⟨k,h⟩:=P a0 a1 a2 a3 a4 a5 a6 ok_0;refine(laws_FnExactRecText.calls k a0 a1 a2 a3 a4 a5 a6 true w hG h).mono ?_;rintro e w' ⟨rfl,hd⟩;exact⟨rfl,hd⟩
end Go.Proofs.YthmehmehoehlpaaGreatDoor.GFnExactRecText
