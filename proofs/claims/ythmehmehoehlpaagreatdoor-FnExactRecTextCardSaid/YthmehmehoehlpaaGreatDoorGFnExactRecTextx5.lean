-- Printed by gen.py and its programs for this claim.
import Derived.Test.YthmehmehoehlpaaGreatDoorGFnExactRecTextx0
import Derived.Test.YthmehmehoehlpaaGreatDoorGFnExactRecTextx1
import Derived.Test.YthmehmehoehlpaaGreatDoorGFnExactRecTextx2
import Derived.Test.YthmehmehoehlpaaGreatDoorZFnExactRecText
namespace Go.Proofs.YthmehmehoehlpaaGreatDoor.GFnExactRecText
open Go.RowKit Go.Proofs.YthmehmehoehlpaaGreatDoorW.PrintWords Go.Proofs.YthmehmehoehlpaaGreatDoorW.PrintLast Go.Proofs.YthmehmehoehlpaaGreatDoorW.PrintMore Go.Proofs.YthmehmehoehlpaaGreatDoorW.Zs
set_option maxHeartbeats 40000000
set_option maxRecDepth 100000
attribute [local go_sem] max2_int min2_int max_two min_two max_three min_three max_four min_four
set_option linter.unusedVariables false
set_option linter.unusedSimpArgs false
def spec_l7port.f (k:Nat) (a0:ByteArray) (a1:Int) (a2 a3:ByteArray) (a4:Bool):Option (ByteArray):=if a1=80 then(some (⟨#[]⟩:ByteArray))else((spec_DecText.f k a1).bind fun t0=>(if 1+t0.size≤9223372036854775807 then(some ((⟨#[58]⟩:ByteArray)++t0))else(none)))
theorem spec_l7port.calls (k:Nat) (a0:ByteArray) (a1:Int) (a2 a3:ByteArray) (a4:Bool) (r:ByteArray) (w:World) (H:spec_l7port.f k a0 a1 a2 a3 a4=some r):
  Calls Tryz.prog 114 #[.agg #[.string a0,.int .i64 a1,.string a2,.string a3,.bool a4]] w fun e w'=>e= .returned (.string r)∧Below w.heap.size w w':=by
 have hu63:=Tryz.underlying63;have HB:=Aside0.mk (Below.refl w.heap.size w);unfold spec_l7port.f at H;have C0:=Aside0.mk H;clear H;go_enter Tryz.func114,Tryz.ntmps114
 go_upto_if 5 with(first|((with_reducible refine gate_dst (N:=1) rfl ?_);refine boxP_ (N:=1) (cs:= #[.string a0,.int .i64 a1,.string a2,.string a3,.bool a4]) (t:=63) ?_;intro g0 hg w0 hbox hb;have B0:=Aside0.mk (hbox);have G0:=geb_ (w:=w) hg zb_;replace HB:=Aside0.mk (below_step zb_ hb);clear hb hbox hg;obtain⟨_,_,_,_,_,_,_,_,_,_⟩:=cells5_ B0.out))
 (try simp only[Act.put,List.setIfInBounds_toArray,List.set_cons_zero,List.set_cons_succ]);have H:=C0.out;clear C0
 by_cases c0:a1=80
 ·rw[if_pos c0]at H;obtain⟨f0,f1⟩:=bqT_ c0;clear c0;(first|rw[f0]|(simp only[i64_w,i32_w];rw[f0])|rw[f1]|(rw[f2];simp only[Bool.not_true,Bool.not_false])|skip);obtain rfl:=Option.some.inj H;go_wp2
  go_ret;exact⟨ze_,zb_⟩
 ·rw[if_neg c0]at H;obtain⟨f0,f1⟩:=bqF_ c0;(first|rw[f0]|(simp only[i64_w,i32_w];rw[f0])|rw[f1]|(rw[f2];simp only[Bool.not_true,Bool.not_false])|skip);replace H:=bS_ H;obtain⟨t0,A0,H⟩:=H;(try dsimp only at H)
  replace H:=ifS_ H;obtain⟨c1,H⟩:=H;obtain⟨f3,f4⟩:=dT_ c1;(try have f5:=eq_false (Nat.not_lt.2 c1));obtain rfl:=Option.some.inj H;obtain⟨_,_,_,_,_,_,_,_,_,_⟩:=cells5_ B0.out;go_wp2_with (first|((with_reducible refine gc_ 20 rfl ?_);refine gR 8 Tryz.func20 (spec_DecText.calls k a1 t0 _ A0.out) ?_;rintro w1 hb;replace B0:=Aside0.mk (blk_below (bk_ B0) hb);replace HB:=Aside0.mk (below_step zb_ hb);(try clear hb)))
  go_ret;exact⟨ze_,zb_⟩
def spec_l7query.f (a0:ByteArray) (a1:Int) (a2 a3:ByteArray) (a4:Bool):Option (ByteArray):=if a4=true then(if 1+a3.size≤9223372036854775807 then(some ((⟨#[63]⟩:ByteArray)++a3))else(none))else(some (⟨#[]⟩:ByteArray))
theorem spec_l7query.calls (a0:ByteArray) (a1:Int) (a2 a3:ByteArray) (a4:Bool) (r:ByteArray) (w:World) (H:spec_l7query.f a0 a1 a2 a3 a4=some r):
  Calls Tryz.prog 115 #[.agg #[.string a0,.int .i64 a1,.string a2,.string a3,.bool a4]] w fun e w'=>e= .returned (.string r)∧Below w.heap.size w w':=by
 have hu63:=Tryz.underlying63;have HB:=Aside0.mk (Below.refl w.heap.size w);unfold spec_l7query.f at H;have C0:=Aside0.mk H;clear H;go_enter Tryz.func115,Tryz.ntmps115
 go_upto_if 4 with(first|((with_reducible refine gate_dst (N:=1) rfl ?_);refine boxP_ (N:=1) (cs:= #[.string a0,.int .i64 a1,.string a2,.string a3,.bool a4]) (t:=63) ?_;intro g0 hg w0 hbox hb;have B0:=Aside0.mk (hbox);have G0:=geb_ (w:=w) hg zb_;replace HB:=Aside0.mk (below_step zb_ hb);clear hb hbox hg;obtain⟨_,_,_,_,_,_,_,_,_,_⟩:=cells5_ B0.out))
 (try simp only[Act.put,List.setIfInBounds_toArray,List.set_cons_zero,List.set_cons_succ]);have H:=C0.out;clear C0
 by_cases c0:a4=true
 ·subst c0;rw[if_pos rfl]at H
  replace H:=ifS_ H;obtain⟨c1,H⟩:=H;obtain⟨f0,f1⟩:=dT_ c1;(try have f2:=eq_false (Nat.not_lt.2 c1));obtain rfl:=Option.some.inj H;obtain⟨_,_,_,_,_,_,_,_,_,_⟩:=cells5_ B0.out;go_wp2
  go_ret;exact⟨ze_,zb_⟩
 ·replace c0:=Bool.eq_false_iff.mpr c0;subst c0;rw[if_neg Bool.false_ne_true]at H;obtain rfl:=Option.some.inj H;go_wp2
  go_ret;exact⟨ze_,zb_⟩
def spec_l7text.f (k:Nat) (a0:ByteArray) (a1:Int) (a2 a3:ByteArray) (a4:Bool):Option (ByteArray):=if 7+a0.size≤9223372036854775807 then((spec_l7port.f k a0 a1 a2 a3 a4).bind fun t0=>(if((⟨#[104,116,116,112,58,47,47]⟩:ByteArray)++a0).size+t0.size≤9223372036854775807 then(if(((⟨#[104,116,116,112,58,47,47]⟩:ByteArray)++a0)++t0).size+a2.size≤9223372036854775807 then((spec_l7query.f a0 a1 a2 a3 a4).bind fun t1=>(if((((⟨#[104,116,116,112,58,47,47]⟩:ByteArray)++a0)++t0)++a2).size+t1.size≤9223372036854775807 then(some (((((⟨#[104,116,116,112,58,47,47]⟩:ByteArray)++a0)++t0)++a2)++t1))else(none)))else(none))else(none)))else(none)
def spec_l7text.T1:Bool×List (List Nat×List Nat):=(true,[([],[]),([0],[0]),([1],[1]),([],[]),([3],[3]),([2,4],[2,4]),([],[]),([6],[6]),([5,7],[5,7]),([],[]),([9,4],[9]),([8,10],[8,10]),([11,10,0,1,2,3,4,5,6,7,8,9,10,11],[11])])
def spec_l7text.B1:List Nat:= [0,1,3,0,8,31,0,64,255,0,536,2047,4095]
theorem spec_l7text.tab1:rtab .any (opsOf Tryz.f79 1)=spec_l7text.T1:=by kernel_rfl
theorem spec_l7text.bits1:waitsOk spec_l7text.T1.2 spec_l7text.B1=true:=by kernel_rfl
theorem spec_l7text.calls (k:Nat) (a0:ByteArray) (a1:Int) (a2 a3:ByteArray) (a4:Bool) (r:ByteArray) (w:World) (H:spec_l7text.f k a0 a1 a2 a3 a4=some r):
  Calls Tryz.prog 79 #[.agg #[.string a0,.int .i64 a1,.string a2,.string a3,.bool a4]] w fun e w'=>e= .returned (.string r)∧Below w.heap.size w w':=by
 have hu63:=Tryz.underlying63;have HB:=Aside0.mk (Below.refl w.heap.size w);unfold spec_l7text.f at H
 replace H:=ifS_ H;obtain⟨c0,H⟩:=H;obtain⟨f0,f1⟩:=dT_ c0;(try have f2:=eq_false (Nat.not_lt.2 c0));replace H:=bS_ H;obtain⟨t0,A0,H⟩:=H;(try dsimp only at H)
 replace H:=ifS_ H;obtain⟨c1,H⟩:=H;obtain⟨f3,f4⟩:=dT_ c1;(try have f5:=eq_false (Nat.not_lt.2 c1));try have f6:=f5;simp only[ByteArray.size_append,show(⟨#[104,116,116,112,58,47,47]⟩:ByteArray).size=7 from rfl]at f6;have f7:=f6
 replace H:=ifS_ H;obtain⟨c2,H⟩:=H;obtain⟨f8,f9⟩:=dT_ c2;(try have f10:=eq_false (Nat.not_lt.2 c2));(try have f11:=f10;simp only[ByteArray.size_append,show(⟨#[104,116,116,112,58,47,47]⟩:ByteArray).size=7 from rfl]at f11;have f12:=f11);replace H:=bS_ H;obtain⟨t1,A1,H⟩:=H;(try dsimp only at H)
 replace H:=ifS_ H;obtain⟨c3,H⟩:=H;obtain⟨f13,f14⟩:=dT_ c3;(try have f15:=eq_false (Nat.not_lt.2 c3));(try have f16:=f15;simp only[ByteArray.size_append,show(⟨#[104,116,116,112,58,47,47]⟩:ByteArray).size=7 from rfl]at f16;have f17:=f16);obtain rfl:=Option.some.inj H;go_enter Tryz.func79,Tryz.ntmps79
 (try go_wp2_with (first|((with_reducible refine gate_dst (N:=1) rfl ?_);refine boxP_ (N:=1) (cs:= #[.string a0,.int .i64 a1,.string a2,.string a3,.bool a4]) (t:=63) ?_;intro g0 hg w0 hbox hb;have B0:=Aside0.mk (hbox);have G0:=geb_ (w:=w) hg zb_;replace HB:=Aside0.mk (below_step zb_ hb);clear hb hbox hg)));have n0_:=Aside0.mk (blk_drew B0.out);have n1_:=Aside0.mk (below_drew1 HB.out);clear B0;clear HB;have B0:=n0_;have HB:=n1_;clear n0_ n1_;refine st_ (n:=13) (S:=fun w'=>w'.cell? ⟨g0,0,none⟩=some (.string a0)∧w'.cell? ⟨g0,1,none⟩=some (.int .i64 a1)∧w'.cell? ⟨g0,2,none⟩=some (.string a2)∧w'.cell? ⟨g0,3,none⟩=some (.string a3)∧w'.cell? ⟨g0,4,none⟩=some (.bool a4)) (ds:= []) ⟨(blk_cell B0.out 0).trans rfl,(blk_cell B0.out 1).trans rfl,(blk_cell B0.out 2).trans rfl,(blk_cell B0.out 3).trans rfl,(blk_cell B0.out 4).trans rfl⟩ (fun hHeld=>?_);refine with_tabW spec_l7text.tab1 spec_l7text.bits1 (fun HT_ HW_=>?_);generalize w0.drew=w1 at B0 HB hHeld ⊢;refine pz 0 3 ?_;refine pz 6 9 ?_;refine tk0_ 1 4 hHeld ?_;refine pz 2 5 ?_;refine tk0_ 3 6 hHeld ?_;refine tk0_ 7 10 hHeld ?_;refine tk0_ 9 12 hHeld ?_;refine oZ 4 7 Tryz.func114 (spec_l7port.calls k a0 a1 a2 a3 a4 t0 _ A0.out) (fun K hK=>?_);rintro w2 hb;have n0_:=Aside0.mk (blk_below (bk_ B0) hb);have n1_:=Aside0.mk (below_step zb_ hb);clear B0;clear HB;have B0:=n0_;have HB:=n1_;clear n0_ n1_;(try clear hb);refine hK.out _ _ ⟨(blk_cell B0.out 0).trans rfl,(blk_cell B0.out 1).trans rfl,(blk_cell B0.out 2).trans rfl,(blk_cell B0.out 3).trans rfl,(blk_cell B0.out 4).trans rfl⟩ (fun hHeld=>?_);clear hK K;refine nz ?_;refine pz 5 8 ?_;refine pz 8 11 ?_;refine oZ 10 13 Tryz.func115 (spec_l7query.calls a0 a1 a2 a3 a4 t1 _ A1.out) (fun K hK=>?_);rintro w3 hb;have n0_:=Aside0.mk (blk_below (bk_ B0) hb);have n1_:=Aside0.mk (below_step zb_ hb);clear B0;clear HB;have B0:=n0_;have HB:=n1_;clear n0_ n1_;(try clear hb);refine hK.out _ _ ⟨(blk_cell B0.out 0).trans rfl,(blk_cell B0.out 1).trans rfl,(blk_cell B0.out 2).trans rfl,(blk_cell B0.out 3).trans rfl,(blk_cell B0.out 4).trans rfl⟩ (fun hHeld=>?_);clear hK K;refine nz ?_;refine pz 11 14 ?_;refine pz 12 2 ?_;refine done_ (done_of HT_.out zz0) ?_;(try go_wp2);go_ret;exact⟨ze_,zb_⟩
mutual
def spec_l7host.j0:Nat→ByteArray→Bool→Option (Bool)
 |0,_,_=>none
 |k+1,x0,x1=>if x1=true then(some false)else((spec_l7split.f k x0 46).bind fun t0=>(spec_l7host.l0 k t0 0))
def spec_l7host.l0:Nat→List ByteArray→Int→Option (Bool)
 |0,_,_=>none
 |k+1,x0,x1=>if x1<(x0.length:Int)then(if 0≤x1 then(if(rdOf ByteArray.empty x0 x1).toList=([]:List UInt8)then(some false)else(spec_l7host.l1 k x0 x1 0))else(none))else(some true)
def spec_l7host.l1:Nat→List ByteArray→Int→Int→Option (Bool)
 |0,_,_,_=>none
 |k+1,x0,x1,x2=>if 0≤x1 then(if x1<(x0.length:Int)then(if x2<((rdOf ByteArray.empty x0 x1).size:Int)then(if 0≤x2 then(if(bt (rdOf ByteArray.empty x0 x1) x2)≥97 then(if((bt (rdOf ByteArray.empty x0 x1) x2)≤122)then(spec_l7host.l1 k x0 x1 (wrap64 (x2+1)))else((spec_l1digit.f (bt (rdOf ByteArray.empty x0 x1) x2)).bind fun t0=>(if t0=true then(spec_l7host.l1 k x0 x1 (wrap64 (x2+1)))else(if(bt (rdOf ByteArray.empty x0 x1) x2)=45 then(spec_l7host.l1 k x0 x1 (wrap64 (x2+1)))else(some false)))))else((spec_l1digit.f (bt (rdOf ByteArray.empty x0 x1) x2)).bind fun t1=>(if t1=true then(spec_l7host.l1 k x0 x1 (wrap64 (x2+1)))else(if(bt (rdOf ByteArray.empty x0 x1) x2)=45 then(spec_l7host.l1 k x0 x1 (wrap64 (x2+1)))else(some false)))))else(none))else(spec_l7host.l0 k x0 (wrap64 (x1+1))))else(none))else(none)
end
def spec_l7host.f (k:Nat) (a0:ByteArray):Option (Bool):=if(a0.size:Int)=0 then(spec_l7host.j0 k a0 true)else(spec_l7host.j0 k a0 (decide ((a0.size:Int)>60)))
theorem spec_l7host.calls (k:Nat) (a0:ByteArray) (r:Bool) (w:World) (H:spec_l7host.f k a0=some r):
  Calls Tryz.prog 113 #[.string a0] w fun e w'=>e= .returned (.bool r)∧Below w.heap.size w w':=by
 have HB:=Aside0.mk (Below.refl w.heap.size w);unfold spec_l7host.f at H;have C0:=Aside0.mk H;clear H;go_enter Tryz.func113,Tryz.ntmps113
 go_upto_region 1 with(fail)
 go_cut [14] (fun v0 wc=> ∃(kq:Nat) (x0:Bool),v0= .bool x0∧Aside0 (spec_l7host.j0 kq a0 x0=some r)∧Aside0 (kq≤k)∧Aside0 (Below w.heap.size w wc))
 case first=>
  have H:=C0.out;clear C0
  by_cases c0:(a0.size:Int)=0
  ·rw[if_pos c0]at H;obtain⟨f0,f1⟩:=bqT_ c0;clear c0;(first|rw[f0]|(simp only[i64_w,i32_w];rw[f0])|rw[f1]|(rw[f2];simp only[Bool.not_true,Bool.not_false])|skip);have H':=Aside0.mk H;clear H;go_wp2
   go_meet
   case rel=>exact⟨_,(true),zr_,H',⟨zo_⟩,⟨zb_⟩⟩
  ·rw[if_neg c0]at H;obtain⟨f0,f1⟩:=bqF_ c0;(first|rw[f0]|(simp only[i64_w,i32_w];rw[f0])|rw[f1]|(rw[f2];simp only[Bool.not_true,Bool.not_false])|skip);have H':=Aside0.mk H;clear H;go_wp2
   go_meet
   case rel=>exact⟨_,(decide ((a0.size:Int)>60)),zr_,H',⟨zo_⟩,⟨zb_⟩⟩
 case rest=>
  clear C0;(try clear c1);(try clear p0);(try clear c0);(try clear f0);(try clear f1);obtain⟨kq,x0,rfl,HA,J0,HB⟩:=hcut
  cases kq with
  |zero=>exact absurd HA.out (by simp[spec_l7host.j0])
  |succ k0=>
   have H:=HA.out;clear HA;simp only[spec_l7host.j0]at H
   by_cases c2:x0=true
   ·subst c2;rw[if_pos rfl]at H;obtain rfl:=Option.some.inj H;go_wp2
    go_ret;exact⟨ze_,zb_⟩
   ·replace c2:=Bool.eq_false_iff.mpr c2;subst c2;rw[if_neg Bool.false_ne_true]at H;replace H:=bS_ H;obtain⟨t0,A0,H⟩:=H;(try dsimp only at H);have H':=Aside0.mk H;clear H;go_wp2_with (first|((with_reducible refine gc_ 111 rfl ?_);refine gV 16 Tryz.func111 (spec_l7split.calls k0 a0 46 t0 _ A0.out) ?_;rintro v1 w0 ⟨h0,hb⟩;have O0:=Aside0.mk (Kd.R_lower h0 (below_size zb_));replace HB:=Aside0.mk (below_step zb_ hb);(try clear hb);(try clear h0)))
    go_loopg [4] k0 (fun kq v2 w'=> ∃(x1:Int),v2= .int .i64 x1∧Aside0 (spec_l7host.l0 kq t0 x1=some r)∧Aside0 (kq≤k0)∧Aside0 (Kd.R Kd.string 9 w' w.heap.size (fun _=>True) v1 t0)∧Aside0 (Below w.heap.size w w'))
    case atStart=>exact⟨(0),zr_,H',⟨Nat.le_refl _⟩,⟨by(with_reducible repeat(first|apply Kd.R_alloc|apply Kd.R_drewN|apply Kd.R_drew));exact O0.out⟩,⟨zb_⟩⟩
    case round=>
     clear H';(try clear c1);(try clear p0);(try clear c0);(try clear f0);(try clear f1);(try clear c2);(try clear p0);obtain⟨x1,rfl,HA,K0,O1,HB⟩:=hrel
     cases gk with
     |zero=>exact absurd HA.out (by simp[spec_l7host.l0])
     |succ k1=>
      have H:=HA.out;clear HA;simp only[spec_l7host.l0]at H
      by_cases c3:x1<(t0.length:Int)
      ·rw[if_pos c3]at H;have f3:=decide_eq_true c3;clear c3
       replace H:=ifS_ H;obtain⟨c4,H⟩:=H;have f4:=decide_eq_true c4;clear c4
       by_cases c5:(rdOf ByteArray.empty t0 x1).toList=([]:List UInt8)
       ·rw[if_pos c5]at H;have f5:=beq_iff_eq.mpr c5;have f6:(rdOf ByteArray.empty t0 x1).toList.isEmpty=true:=by have hz_:=beq_iff_eq.1 f5;rw[hz_];rfl
        (try rw[f6]);have f7:=bne_eq_false_iff_eq.mpr c5;clear c5;obtain rfl:=Option.some.inj H;obtain⟨a1,o0,e0⟩:=Kd.R_slice O1.out;subst e0;have p1:0≤(x1:Int):=of_decide_eq_true za_;have q0:x1<(t0.length:Int):=of_decide_eq_true za_;obtain⟨d0,e1,h1⟩:=Kd.at_string (Kd.R_reads' O1.out).2.2 x1 p1 q0;cases e1;replace p1:=eq_true p1;replace q0:=eq_true q0;go_wp2
        go_ret;exact⟨ze_,zb_⟩
       ·rw[if_neg c5]at H;have f5:=beq_eq_false_iff_ne.mpr c5;have f6:(rdOf ByteArray.empty t0 x1).toList.isEmpty=false:=by cases hz_:(rdOf ByteArray.empty t0 x1).toList with|nil=>(rw[hz_]at f5;exact absurd f5 zz2)|cons _ _=>rfl
        (try rw[f6]);have f7:=bne_iff_ne.mpr c5;have H':=Aside0.mk H;clear H;obtain⟨a2,o1,e2⟩:=Kd.R_slice O1.out;subst e2;have p1:0≤(x1:Int):=of_decide_eq_true za_;have q0:x1<(t0.length:Int):=of_decide_eq_true za_;obtain⟨d0,e1,h1⟩:=Kd.at_string (Kd.R_reads' O1.out).2.2 x1 p1 q0;cases e1;replace p1:=eq_true p1;replace q0:=eq_true q0;go_wp2
        go_loopg [5] k1 (fun kq v3 w'=> ∃(x2:Int),v3= .int .i64 x2∧Aside0 (spec_l7host.l1 kq t0 x1 x2=some r)∧Aside0 (kq≤k1)∧Aside0 (Kd.R Kd.string 9 w' w.heap.size (fun _=>True) (.slice (some d0) t0.length o1) t0)∧Aside0 (Below w.heap.size w w'))
        case atStart=>exact⟨(0),zr_,H',⟨Nat.le_refl _⟩,⟨(kr_ O1)⟩,⟨zb_⟩⟩
        case round=>
         clear H';(try clear c1);(try clear p2);(try clear q1);(try clear h2);(try clear p0);(try clear c0);(try clear f0);(try clear f1);(try clear c2);(try clear c3);(try clear f3);(try clear c4);(try clear f4);(try clear c5);(try clear f5);(try clear f7);(try clear c6);(try clear h1);(try clear p1);(try clear p0);(try clear q0);obtain⟨x2,rfl,HA,K1,O1,HB⟩:=hrel
         cases gk with
         |zero=>exact absurd HA.out (by simp[spec_l7host.l1])
         |succ k2=>
          have H:=HA.out;clear HA;simp only[spec_l7host.l1]at H
          replace H:=ifS_ H;obtain⟨c7,H⟩:=H;have f8:=decide_eq_true c7;clear c7
          replace H:=ifS_ H;obtain⟨c8,H⟩:=H;have f9:=decide_eq_true c8;clear c8
          by_cases c9:x2<((rdOf ByteArray.empty t0 x1).size:Int)
          ·rw[if_pos c9]at H;have f10:=decide_eq_true c9;clear c9
           replace H:=ifS_ H;obtain⟨c10,H⟩:=H;have f11:=decide_eq_true c10;clear c10;have C1:=Aside0.mk H;clear H;have p3:0≤(x1:Int):=of_decide_eq_true za_;have q2:x1<(t0.length:Int):=of_decide_eq_true za_;obtain⟨d1,e3,h3⟩:=Kd.at_string (Kd.R_reads' O1.out).2.2 x1 p3 q2;obtain rfl:d0=d1:=(by injection e3);replace p3:=eq_true p3;replace q2:=eq_true q2;have p4:0≤(x1:Int):=of_decide_eq_true za_;have q3:x1<(t0.length:Int):=of_decide_eq_true za_;obtain⟨d2,e4,h4⟩:=Kd.at_string (Kd.R_reads' O1.out).2.2 x1 p4 q3;obtain rfl:d0=d2:=(by injection e4);replace p4:=eq_true p4;replace q3:=eq_true q3;have p5:0≤(x2:Int):=of_decide_eq_true za_;have q4:x2<((rdOf ByteArray.empty t0 x1).size:Int):=of_decide_eq_true za_;have h5:=bt_at (rdOf ByteArray.empty t0 x1) x2;replace p5:=eq_true p5;replace q4:=eq_true q4
           repeat' (first|(go_big_may;(fail))|go_values|go_skip|go_big_skip|go_big_want|((first|(with_reducible refine gate_nog rfl ?_)|(fail_if_success with_reducible refine gate_any ?_));go_step)|go_upon|simp only[Bool.not_true,Bool.not_false,Bool.true_and,Bool.false_and,Bool.true_or,Bool.false_or]|dsimp only)
           have H:=C1.out;clear C1
           by_cases c11:(bt (rdOf ByteArray.empty t0 x1) x2)≥97
           ·rw[if_pos c11]at H;have f12:=decide_eq_true c11;clear c11;(first|rw[f12]|(simp only[i64_w,i32_w];rw[f12])|skip)
            by_cases c12:((bt (rdOf ByteArray.empty t0 x1) x2)≤122)
            ·rw[if_pos c12]at H;have f13:=decide_eq_true c12;clear c12;have H':=Aside0.mk H;clear H;go_wp2
             go_roundg k2
             (case measure=>have:=J0.out;have:=K0.out;have:=K1.out;omega);case rel=>exact⟨(wrap64 (x2+1)),zr_,H',⟨zz32⟩,⟨(kr_ O1)⟩,⟨zb_⟩⟩
            ·rw[if_neg c12]at H;have f13:=decide_eq_false c12;clear c12;replace H:=bS_ H;obtain⟨t1,A1,H⟩:=H;(try dsimp only at H);have C2:=Aside0.mk H;clear H
             repeat' (first|(go_big_may;(first|(go_at_call 110;(with_reducible refine(spec_l1digit.calls (bt (rdOf ByteArray.empty t0 x1) x2) t1 _ A1.out).mono ?_);rintro e w' ⟨rfl,⟨nd,rfl⟩⟩)))|go_values|go_skip|go_big_skip|go_big_want|((first|(with_reducible refine gate_nog rfl ?_)|(fail_if_success with_reducible refine gate_any ?_));go_step)|go_upon|simp only[Bool.not_true,Bool.not_false,Bool.true_and,Bool.false_and,Bool.true_or,Bool.false_or]|dsimp only)
             (try simp only[Act.put,List.setIfInBounds_toArray,List.set_cons_zero,List.set_cons_succ]);(try(rw[drewN_self wr];generalize hq_:World.drewN wr _=wr;have n0_:Aside0 (Kd.R Kd.string 9 wr w.heap.size (fun _=>True) (.slice (some d0) t0.length o1) t0):=⟨by rw[←hq_];exact (kr_ O1)⟩;have n1_:Aside0 (Below w.heap.size w wr):=⟨zz14⟩;clear O1 HB hq_;have O1:=n0_;have HB:=n1_;clear n0_ n1_));have H:=C2.out;clear C2
             by_cases c13:t1=true
             ·subst c13;rw[if_pos rfl]at H;have H':=Aside0.mk H;clear H;go_wp2
              go_roundg k2
              (case measure=>have:=J0.out;have:=K0.out;have:=K1.out;omega);case rel=>exact⟨(wrap64 (x2+1)),zr_,H',⟨zz32⟩,⟨(kr_ O1)⟩,⟨zb_⟩⟩
             ·replace c13:=Bool.eq_false_iff.mpr c13;subst c13;rw[if_neg Bool.false_ne_true]at H
              by_cases c14:(bt (rdOf ByteArray.empty t0 x1) x2)=45
              ·rw[if_pos c14]at H;obtain⟨f14,f15⟩:=bqT_ c14;clear c14;(first|rw[f14]|(simp only[i64_w,i32_w];rw[f14])|rw[f15]|(rw[f16];simp only[Bool.not_true,Bool.not_false])|skip);have H':=Aside0.mk H;clear H;go_wp2
               go_roundg k2
               (case measure=>have:=J0.out;have:=K0.out;have:=K1.out;omega);case rel=>exact⟨(wrap64 (x2+1)),zr_,H',⟨zz32⟩,⟨(kr_ O1)⟩,⟨zb_⟩⟩
              ·rw[if_neg c14]at H;obtain⟨f14,f15⟩:=bqF_ c14;(first|rw[f14]|(simp only[i64_w,i32_w];rw[f14])|rw[f15]|(rw[f16];simp only[Bool.not_true,Bool.not_false])|skip);obtain rfl:=Option.some.inj H;go_wp2
               go_ret;exact⟨ze_,zb_⟩
           ·rw[if_neg c11]at H;have f12:=decide_eq_false c11;clear c11;(first|rw[f12]|(simp only[i64_w,i32_w];rw[f12])|skip);replace H:=bS_ H;obtain⟨t2,A2,H⟩:=H;(try dsimp only at H);have C3:=Aside0.mk H;clear H
            repeat' (first|(go_big_may;(first|(go_at_call 110;(with_reducible refine(spec_l1digit.calls (bt (rdOf ByteArray.empty t0 x1) x2) t2 _ A2.out).mono ?_);rintro e w' ⟨rfl,⟨nd,rfl⟩⟩)))|go_values|go_skip|go_big_skip|go_big_want|((first|(with_reducible refine gate_nog rfl ?_)|(fail_if_success with_reducible refine gate_any ?_));go_step)|go_upon|simp only[Bool.not_true,Bool.not_false,Bool.true_and,Bool.false_and,Bool.true_or,Bool.false_or]|dsimp only)
            (try simp only[Act.put,List.setIfInBounds_toArray,List.set_cons_zero,List.set_cons_succ]);(try(rw[drewN_self wr];generalize hq_:World.drewN wr _=wr;have n0_:Aside0 (Kd.R Kd.string 9 wr w.heap.size (fun _=>True) (.slice (some d0) t0.length o1) t0):=⟨by rw[←hq_];exact (kr_ O1)⟩;have n1_:Aside0 (Below w.heap.size w wr):=⟨zz14⟩;clear O1 HB hq_;have O1:=n0_;have HB:=n1_;clear n0_ n1_));have H:=C3.out;clear C3
            by_cases c15:t2=true
            ·subst c15;rw[if_pos rfl]at H;have H':=Aside0.mk H;clear H;go_wp2
             go_roundg k2
             (case measure=>have:=J0.out;have:=K0.out;have:=K1.out;omega);case rel=>exact⟨(wrap64 (x2+1)),zr_,H',⟨zz32⟩,⟨(kr_ O1)⟩,⟨zb_⟩⟩
            ·replace c15:=Bool.eq_false_iff.mpr c15;subst c15;rw[if_neg Bool.false_ne_true]at H
             by_cases c16:(bt (rdOf ByteArray.empty t0 x1) x2)=45
             ·rw[if_pos c16]at H;obtain⟨f17,f18⟩:=bqT_ c16;clear c16;(first|rw[f17]|(simp only[i64_w,i32_w];rw[f17])|rw[f18]|(rw[f19];simp only[Bool.not_true,Bool.not_false])|skip);have H':=Aside0.mk H;clear H;go_wp2
              go_roundg k2
              (case measure=>have:=J0.out;have:=K0.out;have:=K1.out;omega);case rel=>exact⟨(wrap64 (x2+1)),zr_,H',⟨zz32⟩,⟨(kr_ O1)⟩,⟨zb_⟩⟩
             ·rw[if_neg c16]at H;obtain⟨f17,f18⟩:=bqF_ c16;(first|rw[f17]|(simp only[i64_w,i32_w];rw[f17])|rw[f18]|(rw[f19];simp only[Bool.not_true,Bool.not_false])|skip);obtain rfl:=Option.some.inj H;go_wp2
              go_ret;exact⟨ze_,zb_⟩
          ·rw[if_neg c9]at H;have f10:=decide_eq_false c9;clear c9;have H':=Aside0.mk H;clear H;have p3:0≤(x1:Int):=of_decide_eq_true za_;have q2:x1<(t0.length:Int):=of_decide_eq_true za_;obtain⟨d1,e3,h3⟩:=Kd.at_string (Kd.R_reads' O1.out).2.2 x1 p3 q2;obtain rfl:d0=d1:=(by injection e3);replace p3:=eq_true p3;replace q2:=eq_true q2;go_wp2
           go_roundg k2
           (case measure=>have:=J0.out;have:=K0.out;have:=K1.out;omega);case rel=>exact⟨(wrap64 (x1+1)),zr_,H',⟨zz32⟩,⟨(kr_ O1)⟩,⟨zb_⟩⟩
      ·rw[if_neg c3]at H;have f3:=decide_eq_false c3;clear c3;obtain rfl:=Option.some.inj H;obtain⟨a3,o2,e5⟩:=Kd.R_slice O1.out;subst e5;go_wp2
       go_ret;exact⟨ze_,zb_⟩
end Go.Proofs.YthmehmehoehlpaaGreatDoor.GFnExactRecText
