-- Laid by gen.py of this session (over the kit's printing program): what the law FnExactIndexOk reaches, as Lean functions, and that Go comes to just that.
import Derived.Test.YteojcbbifacpnaaGreatDoorGFnExactIndexOkx0
import Derived.Test.YteojcbbifacpnaaGreatDoorGFnExactIndexOkx1
import Derived.Test.YteojcbbifacpnaaGreatDoorZFnExactIndexOk
namespace Go.Proofs.YteojcbbifacpnaaGreatDoor.GFnExactIndexOk
open Go.RowKit Go.Proofs.YteojcbbifacpnaaGreatDoorW.PrintWords Go.Proofs.YteojcbbifacpnaaGreatDoorW.PrintLast Go.Proofs.YteojcbbifacpnaaGreatDoorW.PrintMore Go.Proofs.YteojcbbifacpnaaGreatDoorW.Zs
attribute [local go_sem] max2_int min2_int max_two min_two max_three min_three max_four min_four -- for this text's walks alone
set_option linter.unusedVariables false
set_option linter.unusedSimpArgs false
/-! ### spec_l7port: function 89 -/
def spec_l7port.f (k:Nat) (a0_0:ByteArray) (a0_1:Int) (a0_2:ByteArray) (a0_3:ByteArray) (a0_4:Bool):Option (ByteArray):=if a0_1=80 then(some (⟨#[]⟩:ByteArray))else((spec_DecText.f k a0_1).bind fun t179=>(if 1+t179.size≤9223372036854775807 then(some ((⟨#[58]⟩:ByteArray)++t179))else(none)))
theorem spec_l7port.mono: ∀a0 a1 a2 a3 a4 k,LeO (spec_l7port.f k a0 a1 a2 a3 a4) (spec_l7port.f (k+1) a0 a1 a2 a3 a4):=by
 intro a0 a1 a2 a3 a4 k;unfold spec_l7port.f
 repeat' first|(with_reducible first|exact spec_DecText.mono _ _|exact LeO.refl _|exact LeO.none _|refine LeO.ite ?_ ?_|refine LeO.bind ?_ (fun _=>?_))|exact spec_DecText.mono _ _|exact LeO.none _|refine LeO.ite ?_ ?_|refine LeO.bind ?_ (fun _=>?_)
set_option maxHeartbeats 40000000 in
set_option maxRecDepth 100000 in
theorem spec_l7port.calls (k : Nat) (a0_0 : ByteArray) (a0_1 : Int) (a0_2 : ByteArray) (a0_3 : ByteArray) (a0_4 : Bool) (r : ByteArray) (w : World) (h : spec_l7port.f k a0_0 a0_1 a0_2 a0_3 a0_4 = some r) :
  Calls Tryz.prog 89 #[.agg #[.string a0_0,.int .i64 a0_1,.string a0_2,.string a0_3,.bool a0_4]] w fun e w'=>e= .returned (.string r)∧Below w.heap.size w w':=by
 have hu48:=Tryz.underlying48;have HB:=Aside0.mk (Below.refl w.heap.size w);have H:(if a0_1=80 then(some (⟨#[]⟩:ByteArray))else((spec_DecText.f k a0_1).bind fun t179=>(if 1+t179.size≤9223372036854775807 then(some ((⟨#[58]⟩:ByteArray)++t179))else(none))))=some r:=h;clear h;have HC2:=Aside0.mk H;clear H;go_enter Tryz.func89,Tryz.ntmps89
 go_upto_if 5 with(first|((with_reducible refine gate_dst (N:=1) rfl ?_);refine boxP_ (N:=1) (cs:= #[.string a0_0,.int .i64 a0_1,.string a0_2,.string a0_3,.bool a0_4]) (t:=48) ?_;intro gb178 hg w3 hbox hb;have BK178:=Aside0.mk (hbox);have GE178:=geb_ (w:=w) hg zz0;replace HB:=Aside0.mk (below_step zz0 hb);clear hb hbox hg;obtain⟨_,_,_,_,_,_,_,_,_,_⟩:=cells5_ BK178.out))
 (try simp only[Act.put,List.setIfInBounds_toArray,List.set_cons_zero,List.set_cons_succ]);have H:=HC2.out;clear HC2
 by_cases c5:a0_1=80
 ·rw[if_pos c5]at H;have c5b0:(a0_1==80)=true:=beq_iff_eq.mpr c5;have c5b1:(a0_1 !=80)=false:=bne_eq_false_iff_eq.mpr c5;clear c5;(first|rw[c5b0]|(simp only[i64_w,i32_w];rw[c5b0])|rw[c5b1]|(rw[c5b2];simp only[Bool.not_true,Bool.not_false])|skip);obtain rfl:=Option.some.inj H;go_wp2
  go_ret;exact⟨zz1,zz64⟩
 ·rw[if_neg c5]at H;have c5b0:(a0_1==80)=false:=beq_eq_false_iff_ne.mpr c5;have c5b1:(a0_1 !=80)=true:=bne_iff_ne.mpr c5;(first|rw[c5b0]|(simp only[i64_w,i32_w];rw[c5b0])|rw[c5b1]|(rw[c5b2];simp only[Bool.not_true,Bool.not_false])|skip);replace H:=Option.bind_eq_some_iff.mp H;obtain⟨t179,A60,H⟩:=H;(try dsimp only at H);have A6:=Aside0.mk A60;clear A60
  by_cases c7:1+t179.size≤9223372036854775807
  ·rw[if_pos c7]at H;have c7b0:=eq_true c7;have c7b1:decide (1+t179.size≤9223372036854775807)=true:=decide_eq_true c7;(try have c7b2:(9223372036854775807<1+t179.size)=False:=eq_false (Nat.not_lt.2 c7));obtain rfl:=Option.some.inj H;obtain⟨_,_,_,_,_,_,_,_,_,_⟩:=cells5_ BK178.out;go_wp2_with (first|((with_reducible refine gate_callee (f:=70) rfl ?_);refine goesR_ 8 Tryz.func70 #[.int .i64 a0_1] (spec_DecText.calls k a0_1 t179 _ A6.out) ?_;rintro w9 hb;replace BK178:=Aside0.mk (blk_below (by(with_reducible repeat(first|refine blk_drewN ?_ _|refine blk_drew ?_|refine blk_alloc ?_ _));exact BK178.out) hb);replace HB:=Aside0.mk (below_step zz64 hb);(try clear hb)))
   go_ret;exact⟨zz1,zz64⟩
  ·rw[if_neg c7]at H;exact absurd H (by simp)
/-! ### spec_l7query: function 90 -/
def spec_l7query.f (a0_0:ByteArray) (a0_1:Int) (a0_2:ByteArray) (a0_3:ByteArray) (a0_4:Bool):Option (ByteArray):=if a0_4=true then(if 1+a0_3.size≤9223372036854775807 then(some ((⟨#[63]⟩:ByteArray)++a0_3))else(none))else(some (⟨#[]⟩:ByteArray))
set_option maxHeartbeats 40000000 in
set_option maxRecDepth 100000 in
theorem spec_l7query.calls (a0_0 : ByteArray) (a0_1 : Int) (a0_2 : ByteArray) (a0_3 : ByteArray) (a0_4 : Bool) (r : ByteArray) (w : World) (h : spec_l7query.f a0_0 a0_1 a0_2 a0_3 a0_4 = some r) :
  Calls Tryz.prog 90 #[.agg #[.string a0_0,.int .i64 a0_1,.string a0_2,.string a0_3,.bool a0_4]] w fun e w'=>e= .returned (.string r)∧Below w.heap.size w w':=by
 have hu48:=Tryz.underlying48;have HB:=Aside0.mk (Below.refl w.heap.size w);have H:(if a0_4=true then(if 1+a0_3.size≤9223372036854775807 then(some ((⟨#[63]⟩:ByteArray)++a0_3))else(none))else(some (⟨#[]⟩:ByteArray)))=some r:=h;clear h;have HC2:=Aside0.mk H;clear H;go_enter Tryz.func90,Tryz.ntmps90
 go_upto_if 4 with(first|((with_reducible refine gate_dst (N:=1) rfl ?_);refine boxP_ (N:=1) (cs:= #[.string a0_0,.int .i64 a0_1,.string a0_2,.string a0_3,.bool a0_4]) (t:=48) ?_;intro gb180 hg w3 hbox hb;have BK180:=Aside0.mk (hbox);have GE180:=geb_ (w:=w) hg zz0;replace HB:=Aside0.mk (below_step zz0 hb);clear hb hbox hg;obtain⟨_,_,_,_,_,_,_,_,_,_⟩:=cells5_ BK180.out))
 (try simp only[Act.put,List.setIfInBounds_toArray,List.set_cons_zero,List.set_cons_succ]);have H:=HC2.out;clear HC2
 by_cases c5:a0_4=true
 ·subst c5;rw[if_pos rfl]at H
  by_cases c6:1+a0_3.size≤9223372036854775807
  ·rw[if_pos c6]at H;have c6b0:=eq_true c6;have c6b1:decide (1+a0_3.size≤9223372036854775807)=true:=decide_eq_true c6;(try have c6b2:(9223372036854775807<1+a0_3.size)=False:=eq_false (Nat.not_lt.2 c6));obtain rfl:=Option.some.inj H;obtain⟨_,_,_,_,_,_,_,_,_,_⟩:=cells5_ BK180.out;go_wp2
   go_ret;exact⟨zz1,zz89⟩
  ·rw[if_neg c6]at H;exact absurd H (by simp)
 ·replace c5:=Bool.eq_false_iff.mpr c5;subst c5;rw[if_neg Bool.false_ne_true]at H;obtain rfl:=Option.some.inj H;go_wp2
  go_ret;exact⟨zz1,zz89⟩
/-! ### spec_l7text: function 127 -/
def spec_l7text.f (k:Nat) (a0_0:ByteArray) (a0_1:Int) (a0_2:ByteArray) (a0_3:ByteArray) (a0_4:Bool):Option (ByteArray):=if 7+a0_0.size≤9223372036854775807 then((spec_l7port.f k a0_0 a0_1 a0_2 a0_3 a0_4).bind fun t182=>(if((⟨#[104,116,116,112,58,47,47]⟩:ByteArray)++a0_0).size+t182.size≤9223372036854775807 then(if(((⟨#[104,116,116,112,58,47,47]⟩:ByteArray)++a0_0)++t182).size+a0_2.size≤9223372036854775807 then((spec_l7query.f a0_0 a0_1 a0_2 a0_3 a0_4).bind fun t183=>(if((((⟨#[104,116,116,112,58,47,47]⟩:ByteArray)++a0_0)++t182)++a0_2).size+t183.size≤9223372036854775807 then(some (((((⟨#[104,116,116,112,58,47,47]⟩:ByteArray)++a0_0)++t182)++a0_2)++t183))else(none)))else(none))else(none)))else(none)
theorem spec_l7text.mono: ∀a0 a1 a2 a3 a4 k,LeO (spec_l7text.f k a0 a1 a2 a3 a4) (spec_l7text.f (k+1) a0 a1 a2 a3 a4):=by
 intro a0 a1 a2 a3 a4 k;unfold spec_l7text.f
 repeat' first|(with_reducible first|exact spec_l7port.mono _ _ _ _ _ _|exact LeO.refl _|exact LeO.none _|refine LeO.ite ?_ ?_|refine LeO.bind ?_ (fun _=>?_))|exact spec_l7port.mono _ _ _ _ _ _|exact LeO.none _|refine LeO.ite ?_ ?_|refine LeO.bind ?_ (fun _=>?_)
def spec_l7text.T1:Bool×List (List Nat×List Nat):=(true,[([],[]),([0],[0]),([1],[1]),([],[]),([3],[3]),([2,4],[2,4]),([],[]),([6],[6]),([5,7],[5,7]),([],[]),([9,4],[9]),([8,10],[8,10]),([11,10,0,1,2,3,4,5,6,7,8,9,10,11],[11])])
def spec_l7text.B1:List Nat:= [0,1,3,0,8,31,0,64,255,0,536,2047,4095]
theorem spec_l7text.tab1:rtab .any (opsOf Tryz.f127 1)=spec_l7text.T1:=by kernel_rfl
theorem spec_l7text.bits1:waitsOk spec_l7text.T1.2 spec_l7text.B1=true:=by kernel_rfl
set_option maxHeartbeats 40000000 in
set_option maxRecDepth 100000 in
theorem spec_l7text.calls (k : Nat) (a0_0 : ByteArray) (a0_1 : Int) (a0_2 : ByteArray) (a0_3 : ByteArray) (a0_4 : Bool) (r : ByteArray) (w : World) (h : spec_l7text.f k a0_0 a0_1 a0_2 a0_3 a0_4 = some r) :
  Calls Tryz.prog 127 #[.agg #[.string a0_0,.int .i64 a0_1,.string a0_2,.string a0_3,.bool a0_4]] w fun e w'=>e= .returned (.string r)∧Below w.heap.size w w':=by
 have hu48:=Tryz.underlying48;have HB:=Aside0.mk (Below.refl w.heap.size w);have H:(if 7+a0_0.size≤9223372036854775807 then((spec_l7port.f k a0_0 a0_1 a0_2 a0_3 a0_4).bind fun t182=>(if((⟨#[104,116,116,112,58,47,47]⟩:ByteArray)++a0_0).size+t182.size≤9223372036854775807 then(if(((⟨#[104,116,116,112,58,47,47]⟩:ByteArray)++a0_0)++t182).size+a0_2.size≤9223372036854775807 then((spec_l7query.f a0_0 a0_1 a0_2 a0_3 a0_4).bind fun t183=>(if((((⟨#[104,116,116,112,58,47,47]⟩:ByteArray)++a0_0)++t182)++a0_2).size+t183.size≤9223372036854775807 then(some (((((⟨#[104,116,116,112,58,47,47]⟩:ByteArray)++a0_0)++t182)++a0_2)++t183))else(none)))else(none))else(none)))else(none))=some r:=h;clear h
 by_cases c2:7+a0_0.size≤9223372036854775807
 ·rw[if_pos c2]at H;have c2b0:=eq_true c2;have c2b1:decide (7+a0_0.size≤9223372036854775807)=true:=decide_eq_true c2;(try have c2b2:(9223372036854775807<7+a0_0.size)=False:=eq_false (Nat.not_lt.2 c2));replace H:=Option.bind_eq_some_iff.mp H;obtain⟨t182,A30,H⟩:=H;(try dsimp only at H);have A3:=Aside0.mk A30;clear A30
  by_cases c4:((⟨#[104,116,116,112,58,47,47]⟩:ByteArray)++a0_0).size+t182.size≤9223372036854775807
  ·rw[if_pos c4]at H;have c4b0:=eq_true c4;have c4b1:decide (((⟨#[104,116,116,112,58,47,47]⟩:ByteArray)++a0_0).size+t182.size≤9223372036854775807)=true:=decide_eq_true c4;(try have c4b2:(9223372036854775807<((⟨#[104,116,116,112,58,47,47]⟩:ByteArray)++a0_0).size+t182.size)=False:=eq_false (Nat.not_lt.2 c4));try have c4z:=c4b2;simp only[ByteArray.size_append,show(⟨#[104,116,116,112,58,47,47]⟩:ByteArray).size=7 from rfl]at c4z;have c4b3:=c4z
   by_cases c5:(((⟨#[104,116,116,112,58,47,47]⟩:ByteArray)++a0_0)++t182).size+a0_2.size≤9223372036854775807
   ·rw[if_pos c5]at H;have c5b0:=eq_true c5;have c5b1:decide ((((⟨#[104,116,116,112,58,47,47]⟩:ByteArray)++a0_0)++t182).size+a0_2.size≤9223372036854775807)=true:=decide_eq_true c5;(try have c5b2:(9223372036854775807<(((⟨#[104,116,116,112,58,47,47]⟩:ByteArray)++a0_0)++t182).size+a0_2.size)=False:=eq_false (Nat.not_lt.2 c5));(try have c5z:=c5b2;simp only[ByteArray.size_append,show(⟨#[104,116,116,112,58,47,47]⟩:ByteArray).size=7 from rfl]at c5z;have c5b3:=c5z);replace H:=Option.bind_eq_some_iff.mp H;obtain⟨t183,A60,H⟩:=H;(try dsimp only at H);have A6:=Aside0.mk A60;clear A60
    by_cases c7:((((⟨#[104,116,116,112,58,47,47]⟩:ByteArray)++a0_0)++t182)++a0_2).size+t183.size≤9223372036854775807
    ·rw[if_pos c7]at H;have c7b0:=eq_true c7;have c7b1:decide (((((⟨#[104,116,116,112,58,47,47]⟩:ByteArray)++a0_0)++t182)++a0_2).size+t183.size≤9223372036854775807)=true:=decide_eq_true c7;(try have c7b2:(9223372036854775807<((((⟨#[104,116,116,112,58,47,47]⟩:ByteArray)++a0_0)++t182)++a0_2).size+t183.size)=False:=eq_false (Nat.not_lt.2 c7));(try have c7z:=c7b2;simp only[ByteArray.size_append,show(⟨#[104,116,116,112,58,47,47]⟩:ByteArray).size=7 from rfl]at c7z;have c7b3:=c7z);obtain rfl:=Option.some.inj H;go_enter Tryz.func127,Tryz.ntmps127
     (try go_wp2_with (first|((with_reducible refine gate_dst (N:=1) rfl ?_);refine boxP_ (N:=1) (cs:= #[.string a0_0,.int .i64 a0_1,.string a0_2,.string a0_3,.bool a0_4]) (t:=48) ?_;intro gb181 hg w8 hbox hb;have BK181:=Aside0.mk (hbox);have GE181:=geb_ (w:=w) hg zz0;replace HB:=Aside0.mk (below_step zz0 hb);clear hb hbox hg)));have n0_:=Aside0.mk (blk_drew BK181.out);have n1_:=Aside0.mk (below_drew1 HB.out);clear BK181;clear HB;have BK181:=n0_;have HB:=n1_;clear n0_ n1_;refine st_ (n:=13) (S:=fun w'=>w'.cell? ⟨gb181,0,none⟩=some (.string a0_0)∧w'.cell? ⟨gb181,1,none⟩=some (.int .i64 a0_1)∧w'.cell? ⟨gb181,2,none⟩=some (.string a0_2)∧w'.cell? ⟨gb181,3,none⟩=some (.string a0_3)∧w'.cell? ⟨gb181,4,none⟩=some (.bool a0_4)) (ds:= []) ⟨(blk_cell BK181.out 0).trans rfl,(blk_cell BK181.out 1).trans rfl,(blk_cell BK181.out 2).trans rfl,(blk_cell BK181.out 3).trans rfl,(blk_cell BK181.out 4).trans rfl⟩ (fun hHeld=>?_);refine with_tabW spec_l7text.tab1 spec_l7text.bits1 (fun HT_ HW_=>?_);generalize w8.drew=w9 at BK181 HB hHeld ⊢;refine pz 0 3 ?_;refine pz 6 9 ?_;refine tk0_ 1 4 hHeld ?_;refine pz 2 5 ?_;refine tk0_ 3 6 hHeld ?_;refine tk0_ 7 10 hHeld ?_;refine tk0_ 9 12 hHeld ?_;refine oz 4 7 (fun K hK=>?_);refine goZ Tryz.func89 #[.agg #[.string a0_0,.int .i64 a0_1,.string a0_2,.string a0_3,.bool a0_4]] (spec_l7port.calls k a0_0 a0_1 a0_2 a0_3 a0_4 t182 _ A3.out) ?_;rintro w10 hb;have n0_:=Aside0.mk (blk_below (by(with_reducible repeat(first|refine blk_drewN ?_ _|refine blk_drew ?_|refine blk_alloc ?_ _));exact BK181.out) hb);have n1_:=Aside0.mk (below_step zz63 hb);clear BK181;clear HB;have BK181:=n0_;have HB:=n1_;clear n0_ n1_;(try clear hb);(try clear hb2);(try clear hk);(try clear hi);refine hK.out _ _ ⟨(blk_cell BK181.out 0).trans rfl,(blk_cell BK181.out 1).trans rfl,(blk_cell BK181.out 2).trans rfl,(blk_cell BK181.out 3).trans rfl,(blk_cell BK181.out 4).trans rfl⟩ (fun hHeld=>?_);clear hK K;refine nz ?_;refine pz 5 8 ?_;refine pz 8 11 ?_;refine oz 10 13 (fun K hK=>?_);refine goZ Tryz.func90 #[.agg #[.string a0_0,.int .i64 a0_1,.string a0_2,.string a0_3,.bool a0_4]] (spec_l7query.calls a0_0 a0_1 a0_2 a0_3 a0_4 t183 _ A6.out) ?_;rintro w11 hb;have n0_:=Aside0.mk (blk_below (by(with_reducible repeat(first|refine blk_drewN ?_ _|refine blk_drew ?_|refine blk_alloc ?_ _));exact BK181.out) hb);have n1_:=Aside0.mk (below_step zz63 hb);clear BK181;clear HB;have BK181:=n0_;have HB:=n1_;clear n0_ n1_;(try clear hb);(try clear hb2);(try clear hk);(try clear hi);refine hK.out _ _ ⟨(blk_cell BK181.out 0).trans rfl,(blk_cell BK181.out 1).trans rfl,(blk_cell BK181.out 2).trans rfl,(blk_cell BK181.out 3).trans rfl,(blk_cell BK181.out 4).trans rfl⟩ (fun hHeld=>?_);clear hK K;refine nz ?_;refine pz 11 14 ?_;refine pz 12 2 ?_;refine done_ (done_of HT_.out (by kernel_rfl)) ?_;(try go_wp2);go_ret;exact⟨zz1,zz63⟩
    ·rw[if_neg c7]at H;exact absurd H (by simp)
   ·rw[if_neg c5]at H;exact absurd H (by simp)
  ·rw[if_neg c4]at H;exact absurd H (by simp)
 ·rw[if_neg c2]at H;exact absurd H (by simp)
end Go.Proofs.YteojcbbifacpnaaGreatDoor.GFnExactIndexOk
