-- Printed by gen.py and its programs for this claim.
import Derived.Test.YthmehmehoehlpaaGreatDoorGFnExactRecTextx0
import Derived.Test.YthmehmehoehlpaaGreatDoorGFnExactRecTextx1
import Derived.Test.YthmehmehoehlpaaGreatDoorZFnExactRecText
namespace Go.Proofs.YthmehmehoehlpaaGreatDoor.GFnExactRecText
open Go.RowKit Go.Proofs.YthmehmehoehlpaaGreatDoorW.PrintWords Go.Proofs.YthmehmehoehlpaaGreatDoorW.PrintLast Go.Proofs.YthmehmehoehlpaaGreatDoorW.PrintMore Go.Proofs.YthmehmehoehlpaaGreatDoorW.Zs
set_option maxHeartbeats 40000000
set_option maxRecDepth 100000
attribute [local go_sem] max2_int min2_int max_two min_two max_three min_three max_four min_four
set_option linter.unusedVariables false
set_option linter.unusedSimpArgs false
def spec_KindName.f (a0:Int):Option (ByteArray):=if a0=0 then(some (⟨#[119,97,114,99,105,110,102,111]⟩:ByteArray))else(if a0=1 then(some (⟨#[114,101,113,117,101,115,116]⟩:ByteArray))else(if a0=2 then(some (⟨#[114,101,115,112,111,110,115,101]⟩:ByteArray))else(if a0=3 then(some (⟨#[114,101,118,105,115,105,116]⟩:ByteArray))else(if a0=4 then(some (⟨#[109,101,116,97,100,97,116,97]⟩:ByteArray))else(some (⟨#[]⟩:ByteArray))))))
theorem spec_KindName.calls (a0:Int) (r:ByteArray) (w:World) (H:spec_KindName.f a0=some r):
  Calls Tryz.prog 17 #[.int .i64 a0] w fun e w'=>e= .returned (.string r)∧Drawn0 w w':=by
 unfold spec_KindName.f at H
 by_cases c0:a0=0
 ·rw[if_pos c0]at H;obtain⟨f0,f1⟩:=bqT_ c0;clear c0;obtain rfl:=Option.some.inj H;go_enter Tryz.func17,Tryz.ntmps17
  go_wp2
  go_ret;exact⟨zr_,zd_⟩
 ·rw[if_neg c0]at H;obtain⟨f0,f1⟩:=bqF_ c0
  by_cases c1:a0=1
  ·rw[if_pos c1]at H;obtain⟨f2,f3⟩:=bqT_ c1;clear c1;obtain rfl:=Option.some.inj H;go_enter Tryz.func17,Tryz.ntmps17
   go_wp2
   go_ret;exact⟨zr_,zd_⟩
  ·rw[if_neg c1]at H;obtain⟨f2,f3⟩:=bqF_ c1
   by_cases c2:a0=2
   ·rw[if_pos c2]at H;obtain⟨f4,f5⟩:=bqT_ c2;clear c2;obtain rfl:=Option.some.inj H;go_enter Tryz.func17,Tryz.ntmps17
    go_wp2
    go_ret;exact⟨zr_,zd_⟩
   ·rw[if_neg c2]at H;obtain⟨f4,f5⟩:=bqF_ c2
    by_cases c3:a0=3
    ·rw[if_pos c3]at H;obtain⟨f6,f7⟩:=bqT_ c3;clear c3;obtain rfl:=Option.some.inj H;go_enter Tryz.func17,Tryz.ntmps17
     go_wp2
     go_ret;exact⟨zr_,zd_⟩
    ·rw[if_neg c3]at H;obtain⟨f6,f7⟩:=bqF_ c3
     by_cases c4:a0=4
     ·rw[if_pos c4]at H;obtain⟨f8,f9⟩:=bqT_ c4;clear c4;obtain rfl:=Option.some.inj H;go_enter Tryz.func17,Tryz.ntmps17
      go_wp2
      go_ret;exact⟨zr_,zd_⟩
     ·rw[if_neg c4]at H;obtain⟨f8,f9⟩:=bqF_ c4;obtain rfl:=Option.some.inj H;go_enter Tryz.func17,Tryz.ntmps17
      go_wp2
      go_ret;exact⟨zr_,zd_⟩
def spec_IdText.f (k:Nat) (a0:Int):Option (ByteArray):=if a0<0 then(some (⟨#[]⟩:ByteArray))else(if a0>999999 then(some (⟨#[]⟩:ByteArray))else((spec_DecText.f k a0).bind fun t0=>(if 15+t0.size≤9223372036854775807 then(if((⟨#[60,117,114,110,58,115,116,105,108,108,114,111,111,109,58]⟩:ByteArray)++t0).size+1≤9223372036854775807 then(some (((⟨#[60,117,114,110,58,115,116,105,108,108,114,111,111,109,58]⟩:ByteArray)++t0)++(⟨#[62]⟩:ByteArray)))else(none))else(none))))
theorem spec_IdText.calls (k:Nat) (a0:Int) (r:ByteArray) (w:World) (H:spec_IdText.f k a0=some r):
  Calls Tryz.prog 18 #[.int .i64 a0] w fun e w'=>e= .returned (.string r)∧Below w.heap.size w w':=by
 have HB:=Aside0.mk (Below.refl w.heap.size w);unfold spec_IdText.f at H
 by_cases c0:a0<0
 ·rw[if_pos c0]at H;have f0:=decide_eq_true c0;clear c0;obtain rfl:=Option.some.inj H;go_enter Tryz.func18,Tryz.ntmps18
  go_wp2
  go_ret;exact⟨ze_,zb_⟩
 ·rw[if_neg c0]at H;have f0:=decide_eq_false c0;clear c0
  by_cases c1:a0>999999
  ·rw[if_pos c1]at H;have f1:=decide_eq_true c1;clear c1;obtain rfl:=Option.some.inj H;go_enter Tryz.func18,Tryz.ntmps18
   go_wp2
   go_ret;exact⟨ze_,zb_⟩
  ·rw[if_neg c1]at H;have f1:=decide_eq_false c1;clear c1;replace H:=bS_ H;obtain⟨t0,A0,H⟩:=H;(try dsimp only at H)
   replace H:=ifS_ H;obtain⟨c2,H⟩:=H;obtain⟨f2,f3⟩:=dT_ c2;try have f4:=eq_false (Nat.not_lt.2 c2)
   replace H:=ifS_ H;obtain⟨c3,H⟩:=H;obtain⟨f5,f6⟩:=dT_ c3;(try have f7:=eq_false (Nat.not_lt.2 c3));(try have f8:=f7;simp only[ByteArray.size_append,show(⟨#[60,117,114,110,58,115,116,105,108,108,114,111,111,109,58]⟩:ByteArray).size=15 from rfl]at f8;have f9:=f8);obtain rfl:=Option.some.inj H;go_enter Tryz.func18,Tryz.ntmps18
   go_wp2_with (first|((with_reducible refine gc_ 20 rfl ?_);refine gR 10 Tryz.func20 (spec_DecText.calls k a0 t0 _ A0.out) ?_;rintro w0 hb;replace HB:=Aside0.mk (below_step zb_ hb);(try clear hb)))
   go_ret;exact⟨ze_,zb_⟩
def spec_l2leap.f (a0:Int):Option (Bool):=if(Int.tmod a0 4)=0 then(if(Int.tmod a0 100)=0 then(some ((Int.tmod a0 400)==0))else(some true))else(some false)
theorem spec_l2leap.calls (a0:Int) (r:Bool) (w:World) (H:spec_l2leap.f a0=some r):
  Calls Tryz.prog 82 #[.int .i64 a0] w fun e w'=>e= .returned (.bool r)∧Drawn0 w w':=by
 unfold spec_l2leap.f at H
 by_cases c0:(Int.tmod a0 4)=0
 ·rw[if_pos c0]at H;obtain⟨f0,f1⟩:=bqT_ c0;clear c0
  by_cases c1:(Int.tmod a0 100)=0
  ·rw[if_pos c1]at H;obtain⟨f2,f3⟩:=bqT_ c1;clear c1;obtain rfl:=Option.some.inj H;go_enter Tryz.func82,Tryz.ntmps82
   go_wp2
   go_ret;exact⟨zr_,zd_⟩
  ·rw[if_neg c1]at H;obtain⟨f2,f3⟩:=bqF_ c1;obtain rfl:=Option.some.inj H;go_enter Tryz.func82,Tryz.ntmps82
   go_wp2
   go_ret;exact⟨zr_,zd_⟩
 ·rw[if_neg c0]at H;obtain⟨f0,f1⟩:=bqF_ c0;obtain rfl:=Option.some.inj H;go_enter Tryz.func82,Tryz.ntmps82
  go_wp2
  go_ret;exact⟨zr_,zd_⟩
def spec_l2year.f (a0:Int):Option (Int):=(spec_l2leap.f a0).bind fun t0=>(if t0=true then(some 366)else(some 365))
theorem spec_l2year.calls (a0 r:Int) (w:World) (H:spec_l2year.f a0=some r):
  Calls Tryz.prog 59 #[.int .i64 a0] w fun e w'=>e= .returned (.int .i64 r)∧Drawn0 w w':=by
 unfold spec_l2year.f at H;replace H:=bS_ H;obtain⟨t0,A0,H⟩:=H;(try dsimp only at H);have C0:=Aside0.mk H;clear H;go_enter Tryz.func59,Tryz.ntmps59
 go_upto_if 4 with(first|((with_reducible refine gc_ 82 rfl ?_);refine gR 4 Tryz.func82 (spec_l2leap.calls a0 t0 _ A0.out) ?_;rintro w' ⟨nd,rfl⟩))
 (try simp only[Act.put,List.setIfInBounds_toArray,List.set_cons_zero,List.set_cons_succ]);have H:=C0.out;clear C0
 by_cases c0:t0=true
 ·subst c0;rw[if_pos rfl]at H;obtain rfl:=Option.some.inj H;go_wp2
  go_ret;exact⟨zr_,zd_⟩
 ·replace c0:=Bool.eq_false_iff.mpr c0;subst c0;rw[if_neg Bool.false_ne_true]at H;obtain rfl:=Option.some.inj H;go_wp2
  go_ret;exact⟨zr_,zd_⟩
def spec_l2days.f (a0 a1:Int):Option (Int):=if a1=2 then((spec_l2leap.f a0).bind fun t0=>(if t0=true then(some 29)else(some 28)))else(if a1=4 then(some 30)else(if a1=6 then(some 30)else(if a1=9 then(some 30)else(if a1=11 then(some 30)else(some 31)))))
theorem spec_l2days.calls (a0 a1 r:Int) (w:World) (H:spec_l2days.f a0 a1=some r):
  Calls Tryz.prog 60 #[.int .i64 a0,.int .i64 a1] w fun e w'=>e= .returned (.int .i64 r)∧Drawn0 w w':=by
 unfold spec_l2days.f at H
 by_cases c0:a1=2
 ·rw[if_pos c0]at H;obtain⟨f0,f1⟩:=bqT_ c0;clear c0;replace H:=bS_ H;obtain⟨t0,A0,H⟩:=H;(try dsimp only at H);have C0:=Aside0.mk H;clear H;go_enter Tryz.func60,Tryz.ntmps60
  go_upto_if 8 with(first|((with_reducible refine gc_ 82 rfl ?_);refine gR 8 Tryz.func82 (spec_l2leap.calls a0 t0 _ A0.out) ?_;rintro w' ⟨nd,rfl⟩))
  (try simp only[Act.put,List.setIfInBounds_toArray,List.set_cons_zero,List.set_cons_succ]);have H:=C0.out;clear C0
  by_cases c1:t0=true
  ·subst c1;rw[if_pos rfl]at H;obtain rfl:=Option.some.inj H;go_wp2
   go_ret;exact⟨zr_,zd_⟩
  ·replace c1:=Bool.eq_false_iff.mpr c1;subst c1;rw[if_neg Bool.false_ne_true]at H;obtain rfl:=Option.some.inj H;go_wp2
   go_ret;exact⟨zr_,zd_⟩
 ·rw[if_neg c0]at H;obtain⟨f0,f1⟩:=bqF_ c0
  by_cases c2:a1=4
  ·rw[if_pos c2]at H;obtain⟨f2,f3⟩:=bqT_ c2;clear c2;obtain rfl:=Option.some.inj H;go_enter Tryz.func60,Tryz.ntmps60
   go_wp2
   go_ret;exact⟨zr_,zd_⟩
  ·rw[if_neg c2]at H;obtain⟨f2,f3⟩:=bqF_ c2
   by_cases c3:a1=6
   ·rw[if_pos c3]at H;obtain⟨f4,f5⟩:=bqT_ c3;clear c3;obtain rfl:=Option.some.inj H;go_enter Tryz.func60,Tryz.ntmps60
    go_wp2
    go_ret;exact⟨zr_,zd_⟩
   ·rw[if_neg c3]at H;obtain⟨f4,f5⟩:=bqF_ c3
    by_cases c4:a1=9
    ·rw[if_pos c4]at H;obtain⟨f6,f7⟩:=bqT_ c4;clear c4;obtain rfl:=Option.some.inj H;go_enter Tryz.func60,Tryz.ntmps60
     go_wp2
     go_ret;exact⟨zr_,zd_⟩
    ·rw[if_neg c4]at H;obtain⟨f6,f7⟩:=bqF_ c4
     by_cases c5:a1=11
     ·rw[if_pos c5]at H;obtain⟨f8,f9⟩:=bqT_ c5;clear c5;obtain rfl:=Option.some.inj H;go_enter Tryz.func60,Tryz.ntmps60
      go_wp2
      go_ret;exact⟨zr_,zd_⟩
     ·rw[if_neg c5]at H;obtain⟨f8,f9⟩:=bqF_ c5;obtain rfl:=Option.some.inj H;go_enter Tryz.func60,Tryz.ntmps60
      go_wp2
      go_ret;exact⟨zr_,zd_⟩
mutual
def spec_CivilOf.l0:Nat→Int→Int→Int→Int→Int→Int→Int→Option (Int×Int×Int×Int×Int×Int×Bool)
 |0,_,_,_,_,_,_,_=>none
 |k+1,x0,x1,x2,x3,x4,x5,x6=>(spec_l2year.f x1).bind fun t0=>(if x0≥t0 then((spec_l2year.f x1).bind fun t1=>(spec_CivilOf.l0 k (wrap64 (x0-t1)) (wrap64 (x1+1)) x2 x3 x4 x5 x6))else(spec_CivilOf.l1 k x0 x1 x2 x3 x4 x5 x6))
def spec_CivilOf.l1:Nat→Int→Int→Int→Int→Int→Int→Int→Option (Int×Int×Int×Int×Int×Int×Bool)
 |0,_,_,_,_,_,_,_=>none
 |k+1,x0,x1,x2,x3,x4,x5,x6=>(spec_l2days.f x1 x2).bind fun t0=>(if x0≥t0 then((spec_l2days.f x1 x2).bind fun t1=>(spec_CivilOf.l1 k (wrap64 (x0-t1)) x1 (wrap64 (x2+1)) x3 x4 x5 x6))else(some (x1,x2,wrap64 (x0+1),x4,x5,x6,true)))
end
def spec_CivilOf.f (k:Nat) (a0:Int):Option (Int×Int×Int×Int×Int×Int×Bool):=(spec_l2time.f a0).bind fun t0=>(if t0=true then(spec_CivilOf.l0 k (wrap64 (Int.tdiv a0 86400)) 1970 1 0 (Int.tmod (wrap64 (Int.tdiv a0 3600)) 24) (Int.tmod (wrap64 (Int.tdiv a0 60)) 60) (Int.tmod a0 60))else(some (0,0,0,0,0,0,false)))
theorem spec_CivilOf.calls (k:Nat) (a0 r1 r2 r3 r4 r5 r6:Int) (r7:Bool) (w:World) (H:spec_CivilOf.f k a0=some (r1,r2,r3,r4,r5,r6,r7)):
  Calls Tryz.prog 40 #[.int .i64 a0] w fun e w'=>e= .returned (.tuple #[.agg #[.int .i64 r1,.int .i64 r2,.int .i64 r3,.int .i64 r4,.int .i64 r5,.int .i64 r6],.bool r7])∧Below w.heap.size w w':=by
 have hu51:=Tryz.underlying51;have HB:=Aside0.mk (Below.refl w.heap.size w);unfold spec_CivilOf.f at H;replace H:=bS_ H;obtain⟨t0,A0,H⟩:=H;(try dsimp only at H);have C0:=Aside0.mk H;clear H;go_enter Tryz.func40,Tryz.ntmps40
 go_upto_if 8 with(first|((with_reducible refine gate_dst (N:=2) rfl ?_);refine boxP_ (N:=2) (cs:= #[.int .i64 0,.int .i64 0,.int .i64 0,.int .i64 0,.int .i64 0,.int .i64 0]) (t:=51) ?_;intro g0 hg w0 hbox hb;have B0:=Aside0.mk (hbox);have G0:=geb_ (w:=w) hg zb_;replace HB:=Aside0.mk (below_step zb_ hb);clear hb hbox hg)|((with_reducible refine gc_ 12 rfl ?_);refine gR 7 Tryz.func12 (spec_l2time.calls a0 t0 _ A0.out) ?_;rintro w' ⟨nd,rfl⟩))
 (try simp only[Act.put,List.setIfInBounds_toArray,List.set_cons_zero,List.set_cons_succ]);(try(rw[drewN_self w0];generalize hq_:World.drewN w0 _=w0;replace B0:=dnB_ hq_ B0;replace HB:=dnH_ hq_ HB;clear hq_;obtain⟨_,_,_,_,_,_,_,_,_,_,_,_⟩:=cells6_ B0.out));have H:=C0.out;clear C0
 by_cases c0:t0=true
 ·subst c0;rw[if_pos rfl]at H;have H':=Aside0.mk H;clear H;go_wp2_with (first|((with_reducible refine gate_dst (N:=5) rfl ?_);refine boxP_ (N:=5) (cs:= #[.int .i64 0,.int .i64 0,.int .i64 0,.int .i64 0,.int .i64 0,.int .i64 0]) (t:=51) ?_;intro g1 hg w1 hbox hb;have B1:=Aside0.mk (hbox);have G1:=geb_ (w:=w) hg zb_;replace HB:=Aside0.mk (below_step zb_ hb);have N0:=nbL_ (g:=g0) hg (bk_ B0);have N1:=nbG_ (g:=g0) hg (bk_ B0);replace B0:=Aside0.mk (blk_below (bk_ B0) hb);clear hb hbox hg;have n0:=N1.out;have n1:=N0.out;obtain⟨_,_,_,_,_,_,_,_,_,_,_,_⟩:=cells6_ B1.out))
  go_loopg [4] k (fun kq v0 w'=> ∃(x0 x1:Int),v0= .int .i64 x0∧Aside0 (spec_CivilOf.l0 kq x0 x1 1 0 (Int.tmod (wrap64 (Int.tdiv a0 3600)) 24) (Int.tmod (wrap64 (Int.tdiv a0 60)) 60) (Int.tmod a0 60)=some (r1,r2,r3,r4,r5,r6,r7))∧Aside0 (kq≤k)∧Aside0 (w'.heap[g0]?=some (.cells #[.int .i64 0,.int .i64 0,.int .i64 0,.int .i64 0,.int .i64 0,.int .i64 0] 51 (0,0)))∧Aside0 (w'.heap[g1]?=some (.cells #[.int .i64 x1,.int .i64 1,.int .i64 0,.int .i64 (Int.tmod (wrap64 (Int.tdiv a0 3600)) 24),.int .i64 (Int.tmod (wrap64 (Int.tdiv a0 60)) 60),.int .i64 (Int.tmod a0 60)] 51 (0,0)))∧Aside0 (Below w.heap.size w w'))
  case atStart=>exact⟨(wrap64 (Int.tdiv a0 86400)),(1970),zr_,H',⟨Nat.le_refl _⟩,⟨by(iterate 6 ((with_reducible repeat(first|refine blk_drewN ?_ _|refine blk_drew ?_|refine blk_alloc ?_ _));refine blk_far ?_ N0.out _));(with_reducible repeat(first|refine blk_drewN ?_ _|refine blk_drew ?_|refine blk_alloc ?_ _));exact B0.out⟩,⟨by(with_reducible repeat(first|refine blk_drewN ?_ _|refine blk_drew ?_|refine blk_alloc ?_ _));refine blk_put (cs:= #[.int .i64 1970,.int .i64 1,.int .i64 0,.int .i64 (Int.tmod (wrap64 (Int.tdiv a0 3600)) 24),.int .i64 (Int.tmod (wrap64 (Int.tdiv a0 60)) 60),.int .i64 0]) ?_ 5 _ rfl;(with_reducible repeat(first|refine blk_drewN ?_ _|refine blk_drew ?_|refine blk_alloc ?_ _));refine blk_put (cs:= #[.int .i64 1970,.int .i64 1,.int .i64 0,.int .i64 (Int.tmod (wrap64 (Int.tdiv a0 3600)) 24),.int .i64 0,.int .i64 0]) ?_ 4 _ rfl;(with_reducible repeat(first|refine blk_drewN ?_ _|refine blk_drew ?_|refine blk_alloc ?_ _));refine blk_put (cs:= #[.int .i64 1970,.int .i64 1,.int .i64 0,.int .i64 0,.int .i64 0,.int .i64 0]) ?_ 3 _ rfl;(with_reducible repeat(first|refine blk_drewN ?_ _|refine blk_drew ?_|refine blk_alloc ?_ _));refine blk_put (cs:= #[.int .i64 1970,.int .i64 1,.int .i64 0,.int .i64 0,.int .i64 0,.int .i64 0]) ?_ 2 _ rfl;(with_reducible repeat(first|refine blk_drewN ?_ _|refine blk_drew ?_|refine blk_alloc ?_ _));refine blk_put (cs:= #[.int .i64 1970,.int .i64 0,.int .i64 0,.int .i64 0,.int .i64 0,.int .i64 0]) ?_ 1 _ rfl;(with_reducible repeat(first|refine blk_drewN ?_ _|refine blk_drew ?_|refine blk_alloc ?_ _));refine blk_put (cs:= #[.int .i64 0,.int .i64 0,.int .i64 0,.int .i64 0,.int .i64 0,.int .i64 0]) ?_ 0 _ rfl;(with_reducible repeat(first|refine blk_drewN ?_ _|refine blk_drew ?_|refine blk_alloc ?_ _));exact B1.out⟩,⟨zb_⟩⟩
  case round=>
   clear H';(try clear c1);(try clear p0);(try clear c2);(try clear c0);(try clear p1);(try clear c3);(try clear h0);(try clear h1);(try clear h2);(try clear h3);(try clear h4);(try clear h5);(try clear h6);(try clear h7);(try clear h8);(try clear h9);(try clear h10);(try clear h11);obtain⟨x0,x1,rfl,HA,K0,B0,B1,HB⟩:=hrel
   cases gk with
   |zero=>exact absurd HA.out (by simp[spec_CivilOf.l0])
   |succ k0=>
    have H:=HA.out;clear HA;simp only[spec_CivilOf.l0]at H;replace H:=bS_ H;obtain⟨t1,A1,H⟩:=H;(try dsimp only at H);have C1:=Aside0.mk H;clear H;have n2:=N1.out;have n3:=N0.out;obtain⟨_,_,_,_,_,_,_,_,_,_,_,_⟩:=cells6_ B1.out;go_upto_if 25 with(first|((with_reducible refine gc_ 59 rfl ?_);refine gR 24 Tryz.func59 (spec_l2year.calls x1 t1 _ A1.out) ?_;rintro w' ⟨nd,rfl⟩))
    (try simp only[Act.put,List.setIfInBounds_toArray,List.set_cons_zero,List.set_cons_succ]);(try(rw[drewN_self wr];generalize hq_:World.drewN wr _=wr;replace B0:=dnB_ hq_ B0;replace B1:=dnB_ hq_ B1;replace HB:=dnH_ hq_ HB;clear hq_;obtain⟨_,_,_,_,_,_,_,_,_,_,_,_⟩:=cells6_ B0.out;obtain⟨_,_,_,_,_,_,_,_,_,_,_,_⟩:=cells6_ B1.out));have H:=C1.out;clear C1
    by_cases c4:x0≥t1
    ·rw[if_pos c4]at H;have f0:=decide_eq_true c4;clear c4;(first|rw[f0]|(simp only[i64_w,i32_w];rw[f0])|skip);replace H:=bS_ H;obtain⟨t2,A2,H⟩:=H;(try dsimp only at H);have H':=Aside0.mk H;clear H;have n4:=N1.out;have n5:=N0.out;obtain⟨_,_,_,_,_,_,_,_,_,_,_,_⟩:=cells6_ B1.out;go_wp2_with (first|((with_reducible refine gc_ 59 rfl ?_);refine gR 29 Tryz.func59 (spec_l2year.calls x1 t2 _ A2.out) ?_;rintro w' ⟨nd,rfl⟩;(try(rw[drewN_self wr];generalize hq_:World.drewN wr _=wr;replace B0:=dnB_ hq_ B0;replace B1:=dnB_ hq_ B1;replace HB:=dnH_ hq_ HB;clear hq_;obtain⟨_,_,_,_,_,_,_,_,_,_,_,_⟩:=cells6_ B0.out;obtain⟨_,_,_,_,_,_,_,_,_,_,_,_⟩:=cells6_ B1.out))))
     go_roundg k0
     (case measure=>have:=K0.out;omega);case rel=>exact⟨(wrap64 (x0-t2)),(wrap64 (x1+1)),zr_,H',⟨zz4⟩,⟨(bk_ B0)⟩,⟨by(with_reducible repeat(first|refine blk_drewN ?_ _|refine blk_drew ?_|refine blk_alloc ?_ _));refine blk_put (cs:= #[.int .i64 x1,.int .i64 1,.int .i64 0,.int .i64 (Int.tmod (wrap64 (Int.tdiv a0 3600)) 24),.int .i64 (Int.tmod (wrap64 (Int.tdiv a0 60)) 60),.int .i64 (Int.tmod a0 60)]) ?_ 0 _ rfl;(with_reducible repeat(first|refine blk_drewN ?_ _|refine blk_drew ?_|refine blk_alloc ?_ _));exact B1.out⟩,⟨zb_⟩⟩
    ·rw[if_neg c4]at H;have f0:=decide_eq_false c4;clear c4;(first|rw[f0]|(simp only[i64_w,i32_w];rw[f0])|skip);have H':=Aside0.mk H;clear H;go_wp2
     go_loopg [4] k0 (fun kq v0 w'=> ∃(x2 x3:Int),v0= .int .i64 x2∧Aside0 (spec_CivilOf.l1 kq x2 x1 x3 0 (Int.tmod (wrap64 (Int.tdiv a0 3600)) 24) (Int.tmod (wrap64 (Int.tdiv a0 60)) 60) (Int.tmod a0 60)=some (r1,r2,r3,r4,r5,r6,r7))∧Aside0 (kq≤k0)∧Aside0 (w'.heap[g0]?=some (.cells #[.int .i64 0,.int .i64 0,.int .i64 0,.int .i64 0,.int .i64 0,.int .i64 0] 51 (0,0)))∧Aside0 (w'.heap[g1]?=some (.cells #[.int .i64 x1,.int .i64 x3,.int .i64 0,.int .i64 (Int.tmod (wrap64 (Int.tdiv a0 3600)) 24),.int .i64 (Int.tmod (wrap64 (Int.tdiv a0 60)) 60),.int .i64 (Int.tmod a0 60)] 51 (0,0)))∧Aside0 (Below w.heap.size w w'))
     case atStart=>exact⟨(x0),(1),zr_,H',⟨Nat.le_refl _⟩,⟨(bk_ B0)⟩,⟨(bk_ B1)⟩,⟨zb_⟩⟩
     case round=>
      clear H';(try clear c1);(try clear p0);(try clear c2);(try clear c0);(try clear p1);(try clear c3);(try clear c5);(try clear c6);(try clear c4);(try clear f0);(try clear c7);(try clear h12);(try clear h13);(try clear h14);(try clear h15);(try clear h16);(try clear h17);(try clear h18);(try clear h19);(try clear h20);(try clear h21);(try clear h22);(try clear h23);(try clear h0);(try clear h1);(try clear h2);(try clear h3);(try clear h4);(try clear h5);(try clear h24);(try clear h25);(try clear h26);(try clear h27);(try clear h28);(try clear h29);(try clear h30);(try clear h31);(try clear h32);(try clear h33);(try clear h34);(try clear h35);(try clear h6);(try clear h7);(try clear h8);(try clear h9);(try clear h10);(try clear h11);(try clear p0);(try clear p1);obtain⟨x2,x3,rfl,HA,K1,B0,B1,HB⟩:=hrel
      cases gk with
      |zero=>exact absurd HA.out (by simp[spec_CivilOf.l1])
      |succ k1=>
       have H:=HA.out;clear HA;simp only[spec_CivilOf.l1]at H;replace H:=bS_ H;obtain⟨t3,A3,H⟩:=H;(try dsimp only at H);have C2:=Aside0.mk H;clear H;have n6:=N1.out;have n7:=N0.out;obtain⟨_,_,_,_,_,_,_,_,_,_,_,_⟩:=cells6_ B1.out;go_upto_if 41 with(first|((with_reducible refine gc_ 60 rfl ?_);refine gR 40 Tryz.func60 (spec_l2days.calls x1 x3 t3 _ A3.out) ?_;rintro w' ⟨nd,rfl⟩))
       (try simp only[Act.put,List.setIfInBounds_toArray,List.set_cons_zero,List.set_cons_succ]);(try(rw[drewN_self wr];generalize hq_:World.drewN wr _=wr;replace B0:=dnB_ hq_ B0;replace B1:=dnB_ hq_ B1;replace HB:=dnH_ hq_ HB;clear hq_;obtain⟨_,_,_,_,_,_,_,_,_,_,_,_⟩:=cells6_ B0.out;obtain⟨_,_,_,_,_,_,_,_,_,_,_,_⟩:=cells6_ B1.out));have H:=C2.out;clear C2
       by_cases c8:x2≥t3
       ·rw[if_pos c8]at H;have f1:=decide_eq_true c8;clear c8;(first|rw[f1]|(simp only[i64_w,i32_w];rw[f1])|skip);replace H:=bS_ H;obtain⟨t4,A4,H⟩:=H;(try dsimp only at H);have H':=Aside0.mk H;clear H;have n8:=N1.out;have n9:=N0.out;obtain⟨_,_,_,_,_,_,_,_,_,_,_,_⟩:=cells6_ B1.out;go_wp2_with (first|((with_reducible refine gc_ 60 rfl ?_);refine gR 47 Tryz.func60 (spec_l2days.calls x1 x3 t4 _ A4.out) ?_;rintro w' ⟨nd,rfl⟩;(try(rw[drewN_self wr];generalize hq_:World.drewN wr _=wr;replace B0:=dnB_ hq_ B0;replace B1:=dnB_ hq_ B1;replace HB:=dnH_ hq_ HB;clear hq_;obtain⟨_,_,_,_,_,_,_,_,_,_,_,_⟩:=cells6_ B0.out;obtain⟨_,_,_,_,_,_,_,_,_,_,_,_⟩:=cells6_ B1.out))))
        go_roundg k1
        (case measure=>have:=K0.out;have:=K1.out;omega);case rel=>exact⟨(wrap64 (x2-t4)),(wrap64 (x3+1)),zr_,H',⟨zz8⟩,⟨(bk_ B0)⟩,⟨by(with_reducible repeat(first|refine blk_drewN ?_ _|refine blk_drew ?_|refine blk_alloc ?_ _));refine blk_put (cs:= #[.int .i64 x1,.int .i64 x3,.int .i64 0,.int .i64 (Int.tmod (wrap64 (Int.tdiv a0 3600)) 24),.int .i64 (Int.tmod (wrap64 (Int.tdiv a0 60)) 60),.int .i64 (Int.tmod a0 60)]) ?_ 1 _ rfl;(with_reducible repeat(first|refine blk_drewN ?_ _|refine blk_drew ?_|refine blk_alloc ?_ _));exact B1.out⟩,⟨zb_⟩⟩
       ·rw[if_neg c8]at H;have f1:=decide_eq_false c8;clear c8;(first|rw[f1]|(simp only[i64_w,i32_w];rw[f1])|skip);simp only[Option.some.injEq,Prod.mk.injEq]at H;obtain⟨rfl,rfl,rfl,rfl,rfl,rfl,rfl⟩:=H;have n10:=N1.out;have n11:=N0.out;obtain⟨_,_,_,_,_,_,_,_,_,_,_,_⟩:=cells6_ B1.out;obtain⟨_,_,_,_,_,_,_,_,_,_,_,_⟩:=cells6_ B0.out;go_wp2
        refine bodyPost_ret (results_ct rfl _ _ g0 51 #[.int .i64 x1,.int .i64 x3,.int .i64 (wrap64 (x2+1)),.int .i64 (Int.tmod (wrap64 (Int.tdiv a0 3600)) 24),.int .i64 (Int.tmod (wrap64 (Int.tdiv a0 60)) 60),.int .i64 (Int.tmod a0 60)] (0,0) _ rfl (bk_ B0) Tryz.underlying51 rfl zz0) rfl ?_;exact⟨ze_,zb_⟩
 ·replace c0:=Bool.eq_false_iff.mpr c0;subst c0;rw[if_neg Bool.false_ne_true]at H;simp only[Option.some.injEq,Prod.mk.injEq]at H;obtain⟨rfl,rfl,rfl,rfl,rfl,rfl,rfl⟩:=H;obtain⟨_,_,_,_,_,_,_,_,_,_,_,_⟩:=cells6_ B0.out;go_wp2
  refine bodyPost_ret (results_ct rfl _ _ g0 51 #[.int .i64 0,.int .i64 0,.int .i64 0,.int .i64 0,.int .i64 0,.int .i64 0] (0,0) _ rfl (bk_ B0) Tryz.underlying51 rfl zz0) rfl ?_;exact⟨ze_,zb_⟩
def spec_l2pad.l0:Nat→Int→ByteArray→Option (ByteArray)
 |0,_,_=>none
 |k+1,x0,x1=>if(x1.size:Int)<x0 then(if 1+x1.size≤9223372036854775807 then(spec_l2pad.l0 k x0 ((⟨#[48]⟩:ByteArray)++x1))else(none))else(some x1)
def spec_l2pad.f (k:Nat) (a0 a1:Int):Option (ByteArray):=(spec_DecText.f k a0).bind fun t0=>(spec_l2pad.l0 k a1 t0)
theorem spec_l2pad.calls (k:Nat) (a0 a1:Int) (r:ByteArray) (w:World) (H:spec_l2pad.f k a0 a1=some r):
  Calls Tryz.prog 41 #[.int .i64 a0,.int .i64 a1] w fun e w'=>e= .returned (.string r)∧Below w.heap.size w w':=by
 have HB:=Aside0.mk (Below.refl w.heap.size w);unfold spec_l2pad.f at H;replace H:=bS_ H;obtain⟨t0,A0,H⟩:=H;(try dsimp only at H);have H':=Aside0.mk H;clear H;go_enter Tryz.func41,Tryz.ntmps41
 go_wp2_with (first|((with_reducible refine gc_ 20 rfl ?_);refine gR 7 Tryz.func20 (spec_DecText.calls k a0 t0 _ A0.out) ?_;rintro w0 hb;replace HB:=Aside0.mk (below_step zb_ hb);(try clear hb)))
 go_loopg [5] k (fun kq v0 w'=> ∃(x0:ByteArray),v0= .string x0∧Aside0 (spec_l2pad.l0 kq a1 x0=some r)∧Aside0 (kq≤k)∧Aside0 (Below w.heap.size w w'))
 case atStart=>exact⟨(t0),zr_,H',⟨Nat.le_refl _⟩,⟨zb_⟩⟩
 case round=>
  clear H';(try clear c0);(try clear p0);(try clear c1);obtain⟨x0,rfl,HA,K0,HB⟩:=hrel
  cases gk with
  |zero=>exact absurd HA.out (by simp[spec_l2pad.l0])
  |succ k0=>
   have H:=HA.out;clear HA;simp only[spec_l2pad.l0]at H
   by_cases c2:(x0.size:Int)<a1
   ·rw[if_pos c2]at H;have f0:=decide_eq_true c2;clear c2
    replace H:=ifS_ H;obtain⟨c3,H⟩:=H;obtain⟨f1,f2⟩:=dT_ c3;(try have f3:=eq_false (Nat.not_lt.2 c3));have H':=Aside0.mk H;clear H;go_wp2
    go_roundg k0
    (case measure=>have:=K0.out;omega);case rel=>exact⟨((⟨#[48]⟩:ByteArray)++x0),zr_,H',⟨zz4⟩,⟨zb_⟩⟩
   ·rw[if_neg c2]at H;have f0:=decide_eq_false c2;clear c2;obtain rfl:=Option.some.inj H;go_wp2
    go_ret;exact⟨ze_,zb_⟩
end Go.Proofs.YthmehmehoehlpaaGreatDoor.GFnExactRecText
