-- Printed by gen.py and its programs for this claim.
import Derived.Test.YthmehmehoehlpaaGreatDoorGFnExactRecTextx0
import Derived.Test.YthmehmehoehlpaaGreatDoorGFnExactRecTextx20
import Derived.Test.YthmehmehoehlpaaGreatDoorZFnExactRecText
namespace Go.Proofs.YthmehmehoehlpaaGreatDoor.GFnExactRecText
open Go.RowKit Go.Proofs.YthmehmehoehlpaaGreatDoorW.PrintWords Go.Proofs.YthmehmehoehlpaaGreatDoorW.PrintLast Go.Proofs.YthmehmehoehlpaaGreatDoorW.PrintMore Go.Proofs.YthmehmehoehlpaaGreatDoorW.Zs
set_option maxHeartbeats 40000000
set_option maxRecDepth 100000
attribute [local go_sem] max2_int min2_int max_two min_two max_three min_three max_four min_four
set_option linter.unusedVariables false
set_option linter.unusedSimpArgs false
def impl_KindName.f (a0:Int):Option (ByteArray):=(impl_within.f a0 0 4).bind fun t0=>(if t0=true then((some (([(⟨#[119,97,114,99,105,110,102,111]⟩:ByteArray),(⟨#[114,101,113,117,101,115,116]⟩:ByteArray),(⟨#[114,101,115,112,111,110,115,101]⟩:ByteArray),(⟨#[114,101,118,105,115,105,116]⟩:ByteArray),(⟨#[109,101,116,97,100,97,116,97]⟩:ByteArray)]:List ByteArray):List ByteArray)).bind fun y0=>(if 0≤a0 then(if a0<(y0.length:Int)then(some (rdOf ByteArray.empty y0 a0))else(none))else(none)))else(some (⟨#[]⟩:ByteArray)))
theorem impl_KindName.calls (a0:Int) (r:ByteArray) (w:World) (H:impl_KindName.f a0=some r):
  Calls Tryz.prog 30 #[.int .i64 a0] w fun e w'=>e= .returned (.string r)∧Below w.heap.size w w':=by
 have HB:=Aside0.mk (Below.refl w.heap.size w);unfold impl_KindName.f at H;replace H:=bS_ H;obtain⟨t0,A0,H⟩:=H;(try dsimp only at H)
 by_cases c0:t0=true
 ·subst c0;rw[if_pos rfl]at H;generalize h0:(([(⟨#[119,97,114,99,105,110,102,111]⟩:ByteArray),(⟨#[114,101,113,117,101,115,116]⟩:ByteArray),(⟨#[114,101,115,112,111,110,115,101]⟩:ByteArray),(⟨#[114,101,118,105,115,105,116]⟩:ByteArray),(⟨#[109,101,116,97,100,97,116,97]⟩:ByteArray)]:List ByteArray):List ByteArray)=y0 at H;have Y0:=Aside0.mk h0.symm;clear h0
  replace H:=ifS_ H;obtain⟨c1,H⟩:=H;have f0:=decide_eq_true c1;clear c1
  replace H:=ifS_ H;obtain⟨c2,H⟩:=H;have f1:=decide_eq_true c2;clear c2;obtain rfl:=Option.some.inj H;go_enter Tryz.func30,Tryz.ntmps30
  go_wp2_with (first|((with_reducible refine gc_ 21 rfl ?_);refine gR 4 Tryz.func21 (impl_within.calls a0 0 4 true _ A0.out) ?_;rintro w' ⟨nd,rfl⟩)|((with_reducible refine gate_dst (N:=6) rfl ?_);refine Kd.R_lit Kd.string _ 9 ?hg (N:=6) ?hd (xs:=([(⟨#[119,97,114,99,105,110,102,111]⟩:ByteArray),(⟨#[114,101,113,117,101,115,116]⟩:ByteArray),(⟨#[114,101,115,112,111,110,115,101]⟩:ByteArray),(⟨#[114,101,118,105,115,105,116]⟩:ByteArray),(⟨#[109,101,116,97,100,97,116,97]⟩:ByteArray)]:List ByteArray)) (inner:= [.string (⟨#[119,97,114,99,105,110,102,111]⟩:ByteArray),.string (⟨#[114,101,113,117,101,115,116]⟩:ByteArray),.string (⟨#[114,101,115,112,111,110,115,101]⟩:ByteArray),.string (⟨#[114,101,118,105,115,105,116]⟩:ByteArray),.string (⟨#[109,101,116,97,100,97,116,97]⟩:ByteArray)]) (ok:=fun _=>True) (okp:=fun _=>True) ?hr ?hp (fun _ hk=>hk) trivial (Below.refl _ _) (Nat.le_refl _) (by simp) ?_;(case hd=>rfl);(case hg=>rfl);(case hr=>first|(go_simp;done)|(go_simp;rfl));(case hp=>exact(Reps.one (show Kd.M Kd.string _ _ _ (⟨#[119,97,114,99,105,110,102,111]⟩:ByteArray) [.string (⟨#[119,97,114,99,105,110,102,111]⟩:ByteArray)]from rfl) (Reps.one (show Kd.M Kd.string _ _ _ (⟨#[114,101,113,117,101,115,116]⟩:ByteArray) [.string (⟨#[114,101,113,117,101,115,116]⟩:ByteArray)]from rfl) (Reps.one (show Kd.M Kd.string _ _ _ (⟨#[114,101,115,112,111,110,115,101]⟩:ByteArray) [.string (⟨#[114,101,115,112,111,110,115,101]⟩:ByteArray)]from rfl) (Reps.one (show Kd.M Kd.string _ _ _ (⟨#[114,101,118,105,115,105,116]⟩:ByteArray) [.string (⟨#[114,101,118,105,115,105,116]⟩:ByteArray)]from rfl) (Reps.one (show Kd.M Kd.string _ _ _ (⟨#[109,101,116,97,100,97,116,97]⟩:ByteArray) [.string (⟨#[109,101,116,97,100,97,116,97]⟩:ByteArray)]from rfl) (Reps.none _ _)))))));intro v0 w0 h1 hb hg_ hnew_;clear hg_ hnew_;(first|rw[←Y0.out]at h1|(simp only[Int.reduceToNat]at h1;rw[←Y0.out]at h1));have O0:=Aside0.mk (Kd.R_lower h1 (below_size zb_));replace HB:=Aside0.mk (below_step zb_ hb);clear hb h1;obtain⟨a1,o0,e0⟩:=Kd.R_slice O0.out;subst e0;have p0:0≤(a0:Int):=of_decide_eq_true za_;have q0:a0<(y0.length:Int):=of_decide_eq_true za_;obtain⟨d0,e1,h2⟩:=Kd.at_string (Kd.R_reads' O0.out).2.2 a0 p0 q0;cases e1;replace p0:=eq_true p0;replace q0:=eq_true q0))
  go_ret;exact⟨ze_,zb_⟩
 ·replace c0:=Bool.eq_false_iff.mpr c0;subst c0;rw[if_neg Bool.false_ne_true]at H;obtain rfl:=Option.some.inj H;go_enter Tryz.func30,Tryz.ntmps30
  go_wp2_with (first|((with_reducible refine gc_ 21 rfl ?_);refine gR 4 Tryz.func21 (impl_within.calls a0 0 4 false _ A0.out) ?_;rintro w' ⟨nd,rfl⟩))
  go_ret;exact⟨ze_,zb_⟩
def impl_IdText.f (a0:Int):Option (ByteArray):=(impl_isId.f a0).bind fun t0=>(if t0=true then((strconv_Itoa.f a0).bind fun t1=>(if 15+t1.size≤9223372036854775807 then(if((⟨#[60,117,114,110,58,115,116,105,108,108,114,111,111,109,58]⟩:ByteArray)++t1).size+1≤9223372036854775807 then(some (((⟨#[60,117,114,110,58,115,116,105,108,108,114,111,111,109,58]⟩:ByteArray)++t1)++(⟨#[62]⟩:ByteArray)))else(none))else(none)))else(some (⟨#[]⟩:ByteArray)))
theorem impl_IdText.calls (a0:Int) (r:ByteArray) (w:World) (hG:Gl w) (H:impl_IdText.f a0=some r):
  Calls Tryz.prog 31 #[.int .i64 a0] w fun e w'=>e= .returned (.string r)∧Below w.heap.size w w':=by
 have HG:=Aside0.mk hG;clear hG;have HB:=Aside0.mk (Below.refl w.heap.size w);unfold impl_IdText.f at H;replace H:=bS_ H;obtain⟨t0,A0,H⟩:=H;(try dsimp only at H)
 by_cases c0:t0=true
 ·subst c0;rw[if_pos rfl]at H;replace H:=bS_ H;obtain⟨t1,A1,H⟩:=H;(try dsimp only at H)
  replace H:=ifS_ H;obtain⟨c1,H⟩:=H;obtain⟨f0,f1⟩:=dT_ c1;try have f2:=eq_false (Nat.not_lt.2 c1)
  replace H:=ifS_ H;obtain⟨c2,H⟩:=H;obtain⟨f3,f4⟩:=dT_ c2;(try have f5:=eq_false (Nat.not_lt.2 c2));(try have f6:=f5;simp only[ByteArray.size_append,show(⟨#[60,117,114,110,58,115,116,105,108,108,114,111,111,109,58]⟩:ByteArray).size=15 from rfl]at f6;have f7:=f6);obtain rfl:=Option.some.inj H;go_enter Tryz.func31,Tryz.ntmps31
  go_wp2_with (first|((with_reducible refine gc_ 22 rfl ?_);refine gR 4 Tryz.func22 (impl_isId.calls a0 true _ A0.out) ?_;rintro w' ⟨nd,rfl⟩)|((with_reducible refine gc_ 33 rfl ?_);refine gR 7 Tryz.func33 (strconv_Itoa.calls a0 t1 _ (Gl.below HG.out zb_) A1.out) ?_;rintro w0 hb;replace HB:=Aside0.mk (below_step zb_ hb);(try clear hb)))
  go_ret;exact⟨ze_,zb_⟩
 ·replace c0:=Bool.eq_false_iff.mpr c0;subst c0;rw[if_neg Bool.false_ne_true]at H;obtain rfl:=Option.some.inj H;go_enter Tryz.func31,Tryz.ntmps31
  go_wp2_with (first|((with_reducible refine gc_ 22 rfl ?_);refine gR 4 Tryz.func22 (impl_isId.calls a0 false _ A0.out) ?_;rintro w' ⟨nd,rfl⟩))
  go_ret;exact⟨ze_,zb_⟩
def impl_daysBefore.f (a0:Int):Option (Int):=some (wrap64 ((wrap64 ((wrap64 ((wrap64 ((wrap64 (365*(wrap64 (a0-1970))))+(wrap64 (Int.tdiv (wrap64 (a0-1)) 4))))-(wrap64 (Int.tdiv (wrap64 (a0-1)) 100))))+(wrap64 (Int.tdiv (wrap64 (a0-1)) 400))))-477))
theorem impl_daysBefore.calls (a0 r:Int) (w:World) (H:impl_daysBefore.f a0=some r):
  Calls Tryz.prog 103 #[.int .i64 a0] w fun e w'=>e= .returned (.int .i64 r)∧Drawn0 w w':=by
 unfold impl_daysBefore.f at H;obtain rfl:=Option.some.inj H;go_enter Tryz.func103,Tryz.ntmps103
 go_wp2
 go_ret;exact⟨zr_,zd_⟩
def impl_daysOf.j0:Nat→Int→Bool→Option (Int)
 |0,_,_=>none
 |k+1,x0,x1=>if x1=true then(some 29)else(if x0=2 then(some 28)else(if x0=4 then(some 30)else(if x0=6 then(some 30)else(if x0=9 then(some 30)else(if x0=11 then(some 30)else(some 31))))))
def impl_daysOf.f (k:Nat) (a0 a1:Int):Option (Int):=if a1=2 then(if(Int.tmod a0 4)=0 then(if(Int.tmod a0 100)=0 then(impl_daysOf.j0 k a1 ((Int.tmod a0 400)==0))else(impl_daysOf.j0 k a1 true))else(impl_daysOf.j0 k a1 ((Int.tmod a0 400)==0)))else(impl_daysOf.j0 k a1 false)
theorem impl_daysOf.calls (k:Nat) (a0 a1 r:Int) (w:World) (H:impl_daysOf.f k a0 a1=some r):
  Calls Tryz.prog 104 #[.int .i64 a0,.int .i64 a1] w fun e w'=>e= .returned (.int .i64 r)∧Drawn0 w w':=by
 unfold impl_daysOf.f at H;have C0:=Aside0.mk H;clear H;go_enter Tryz.func104,Tryz.ntmps104
 go_upto_region 1 with(fail)
 go_cut [5] (fun v0 wc=> ∃(kq:Nat) (x0:Bool),v0= .bool x0∧Aside0 (impl_daysOf.j0 kq a1 x0=some r)∧Aside0 (kq≤k)∧Drawn0 w wc)
 case first=>
  have H:=C0.out;clear C0
  by_cases c0:a1=2
  ·rw[if_pos c0]at H;obtain⟨f0,f1⟩:=bqT_ c0;clear c0;(first|rw[f0]|(simp only[i64_w,i32_w];rw[f0])|rw[f1]|(rw[f2];simp only[Bool.not_true,Bool.not_false])|skip)
   by_cases c1:(Int.tmod a0 4)=0
   ·rw[if_pos c1]at H;obtain⟨f3,f4⟩:=bqT_ c1;clear c1
    by_cases c2:(Int.tmod a0 100)=0
    ·rw[if_pos c2]at H;obtain⟨f5,f6⟩:=bqT_ c2;clear c2;have H':=Aside0.mk H;clear H;go_wp2
     go_meet
     case rel=>exact⟨_,(((Int.tmod a0 400)==0)),zr_,H',⟨zo_⟩,zd_⟩
    ·rw[if_neg c2]at H;obtain⟨f5,f6⟩:=bqF_ c2;have H':=Aside0.mk H;clear H;go_wp2
     go_meet
     case rel=>exact⟨_,(true),zr_,H',⟨zo_⟩,zd_⟩
   ·rw[if_neg c1]at H;obtain⟨f3,f4⟩:=bqF_ c1;have H':=Aside0.mk H;clear H;go_wp2
    go_meet
    case rel=>exact⟨_,(((Int.tmod a0 400)==0)),zr_,H',⟨zo_⟩,zd_⟩
  ·rw[if_neg c0]at H;obtain⟨f0,f1⟩:=bqF_ c0;(first|rw[f0]|(simp only[i64_w,i32_w];rw[f0])|rw[f1]|(rw[f2];simp only[Bool.not_true,Bool.not_false])|skip);have H':=Aside0.mk H;clear H;go_wp2
   go_meet
   case rel=>exact⟨_,(false),zr_,H',⟨zo_⟩,zd_⟩
 case rest=>
  clear C0;(try clear c3);(try clear p0);(try clear c0);(try clear f0);(try clear f1);(try clear c1);(try clear f3);(try clear f4);(try clear c2);(try clear f5);(try clear f6);obtain⟨kq,x0,rfl,HA,J0,⟨mc2,rfl⟩⟩:=hcut
  cases kq with
  |zero=>exact absurd HA.out (by simp[impl_daysOf.j0])
  |succ k0=>
   have H:=HA.out;clear HA;simp only[impl_daysOf.j0]at H
   by_cases c4:x0=true
   ·subst c4;rw[if_pos rfl]at H;obtain rfl:=Option.some.inj H;go_wp2
    go_ret;exact⟨zr_,zd_⟩
   ·replace c4:=Bool.eq_false_iff.mpr c4;subst c4;rw[if_neg Bool.false_ne_true]at H
    by_cases c5:a1=2
    ·rw[if_pos c5]at H;obtain⟨f7,f8⟩:=bqT_ c5;clear c5;obtain rfl:=Option.some.inj H;go_wp2
     go_ret;exact⟨zr_,zd_⟩
    ·rw[if_neg c5]at H;obtain⟨f7,f8⟩:=bqF_ c5
     by_cases c6:a1=4
     ·rw[if_pos c6]at H;obtain⟨f9,f10⟩:=bqT_ c6;clear c6;obtain rfl:=Option.some.inj H;go_wp2
      go_ret;exact⟨zr_,zd_⟩
     ·rw[if_neg c6]at H;obtain⟨f9,f10⟩:=bqF_ c6
      by_cases c7:a1=6
      ·rw[if_pos c7]at H;obtain⟨f11,f12⟩:=bqT_ c7;clear c7;obtain rfl:=Option.some.inj H;go_wp2
       go_ret;exact⟨zr_,zd_⟩
      ·rw[if_neg c7]at H;obtain⟨f11,f12⟩:=bqF_ c7
       by_cases c8:a1=9
       ·rw[if_pos c8]at H;obtain⟨f13,f14⟩:=bqT_ c8;clear c8;obtain rfl:=Option.some.inj H;go_wp2
        go_ret;exact⟨zr_,zd_⟩
       ·rw[if_neg c8]at H;obtain⟨f13,f14⟩:=bqF_ c8
        by_cases c9:a1=11
        ·rw[if_pos c9]at H;obtain⟨f15,f16⟩:=bqT_ c9;clear c9;obtain rfl:=Option.some.inj H;go_wp2
         go_ret;exact⟨zr_,zd_⟩
        ·rw[if_neg c9]at H;obtain⟨f15,f16⟩:=bqF_ c9;obtain rfl:=Option.some.inj H;go_wp2
         go_ret;exact⟨zr_,zd_⟩
mutual
def impl_civilOf.l0:Nat→Int→Int→Int→Int→Int→Int→Int→Option (Int×Int×Int×Int×Int×Int)
 |0,_,_,_,_,_,_,_=>none
 |k+1,x0,x1,x2,x3,x4,x5,x6=>(impl_daysBefore.f (wrap64 (x1+1))).bind fun t0=>(if t0≤x0 then(impl_civilOf.l0 k x0 (wrap64 (x1+1)) x2 x3 x4 x5 x6)else((impl_daysBefore.f x1).bind fun t1=>(impl_civilOf.l1 k (wrap64 (x0-t1)) x1 x2 x3 x4 x5 x6)))
def impl_civilOf.l1:Nat→Int→Int→Int→Int→Int→Int→Int→Option (Int×Int×Int×Int×Int×Int)
 |0,_,_,_,_,_,_,_=>none
 |k+1,x0,x1,x2,x3,x4,x5,x6=>(impl_daysOf.f k x1 x2).bind fun t0=>(if x0≥t0 then((impl_daysOf.f k x1 x2).bind fun t1=>(impl_civilOf.l1 k (wrap64 (x0-t1)) x1 (wrap64 (x2+1)) x3 x4 x5 x6))else(some (x1,x2,wrap64 (x0+1),x4,x5,x6)))
end
def impl_civilOf.f (k:Nat) (a0:Int):Option (Int×Int×Int×Int×Int×Int):=impl_civilOf.l0 k (wrap64 (Int.tdiv a0 86400)) (wrap64 (1970+(wrap64 (Int.tdiv (wrap64 (Int.tdiv a0 86400)) 366)))) 1 0 (wrap64 (Int.tdiv (Int.tmod a0 86400) 3600)) (Int.tmod (wrap64 (Int.tdiv (Int.tmod a0 86400) 60)) 60) (Int.tmod a0 60)
theorem impl_civilOf.calls (k:Nat) (a0 r1 r2 r3 r4 r5 r6:Int) (w:World) (H:impl_civilOf.f k a0=some (r1,r2,r3,r4,r5,r6)):
  Calls Tryz.prog 70 #[.int .i64 a0] w fun e w'=>e= .returned (.agg #[.int .i64 r1,.int .i64 r2,.int .i64 r3,.int .i64 r4,.int .i64 r5,.int .i64 r6])∧Below w.heap.size w w':=by
 have hu51:=Tryz.underlying51;have HB:=Aside0.mk (Below.refl w.heap.size w);unfold impl_civilOf.f at H;have H':=Aside0.mk H;clear H;go_enter Tryz.func70,Tryz.ntmps70
 go_wp2_with (first|((with_reducible refine gate_dst (N:=2) rfl ?_);refine boxP_ (N:=2) (cs:= #[.int .i64 0,.int .i64 0,.int .i64 0,.int .i64 0,.int .i64 0,.int .i64 0]) (t:=51) ?_;intro g0 hg w0 hbox hb;have B0:=Aside0.mk (hbox);have G0:=geb_ (w:=w) hg zb_;replace HB:=Aside0.mk (below_step zb_ hb);clear hb hbox hg)|((with_reducible refine gate_dst (N:=5) rfl ?_);refine boxP_ (N:=5) (cs:= #[.int .i64 0,.int .i64 0,.int .i64 0,.int .i64 0,.int .i64 0,.int .i64 0]) (t:=51) ?_;intro g1 hg w1 hbox hb;have B1:=Aside0.mk (hbox);have G1:=geb_ (w:=w) hg zb_;replace HB:=Aside0.mk (below_step zb_ hb);have N0:=nbL_ (g:=g0) hg (bk_ B0);have N1:=nbG_ (g:=g0) hg (bk_ B0);replace B0:=Aside0.mk (blk_below (bk_ B0) hb);clear hb hbox hg;have n0:=N1.out;have n1:=N0.out;obtain⟨_,_,_,_,_,_,_,_,_,_,_,_⟩:=cells6_ B1.out))
 go_loopg [] k (fun kq w'=> ∃(x0:Int),Aside0 (impl_civilOf.l0 kq (wrap64 (Int.tdiv a0 86400)) x0 1 0 (wrap64 (Int.tdiv (Int.tmod a0 86400) 3600)) (Int.tmod (wrap64 (Int.tdiv (Int.tmod a0 86400) 60)) 60) (Int.tmod a0 60)=some (r1,r2,r3,r4,r5,r6))∧Aside0 (kq≤k)∧Aside0 (w'.heap[g0]?=some (.cells #[.int .i64 0,.int .i64 0,.int .i64 0,.int .i64 0,.int .i64 0,.int .i64 0] 51 (0,0)))∧Aside0 (w'.heap[g1]?=some (.cells #[.int .i64 x0,.int .i64 1,.int .i64 0,.int .i64 (wrap64 (Int.tdiv (Int.tmod a0 86400) 3600)),.int .i64 (Int.tmod (wrap64 (Int.tdiv (Int.tmod a0 86400) 60)) 60),.int .i64 (Int.tmod a0 60)] 51 (0,0)))∧Aside0 (Below w.heap.size w w'))
 case atStart=>exact⟨(wrap64 (1970+(wrap64 (Int.tdiv (wrap64 (Int.tdiv a0 86400)) 366)))),H',⟨Nat.le_refl _⟩,⟨by(iterate 6 ((with_reducible repeat(first|refine blk_drewN ?_ _|refine blk_drew ?_|refine blk_alloc ?_ _));refine blk_far ?_ N0.out _));(with_reducible repeat(first|refine blk_drewN ?_ _|refine blk_drew ?_|refine blk_alloc ?_ _));exact B0.out⟩,⟨by(with_reducible repeat(first|refine blk_drewN ?_ _|refine blk_drew ?_|refine blk_alloc ?_ _));refine blk_put (cs:= #[.int .i64 (wrap64 (1970+(wrap64 (Int.tdiv (wrap64 (Int.tdiv a0 86400)) 366)))),.int .i64 1,.int .i64 0,.int .i64 (wrap64 (Int.tdiv (Int.tmod a0 86400) 3600)),.int .i64 (Int.tmod (wrap64 (Int.tdiv (Int.tmod a0 86400) 60)) 60),.int .i64 0]) ?_ 5 _ rfl;(with_reducible repeat(first|refine blk_drewN ?_ _|refine blk_drew ?_|refine blk_alloc ?_ _));refine blk_put (cs:= #[.int .i64 (wrap64 (1970+(wrap64 (Int.tdiv (wrap64 (Int.tdiv a0 86400)) 366)))),.int .i64 1,.int .i64 0,.int .i64 (wrap64 (Int.tdiv (Int.tmod a0 86400) 3600)),.int .i64 0,.int .i64 0]) ?_ 4 _ rfl;(with_reducible repeat(first|refine blk_drewN ?_ _|refine blk_drew ?_|refine blk_alloc ?_ _));refine blk_put (cs:= #[.int .i64 (wrap64 (1970+(wrap64 (Int.tdiv (wrap64 (Int.tdiv a0 86400)) 366)))),.int .i64 1,.int .i64 0,.int .i64 0,.int .i64 0,.int .i64 0]) ?_ 3 _ rfl;(with_reducible repeat(first|refine blk_drewN ?_ _|refine blk_drew ?_|refine blk_alloc ?_ _));refine blk_put (cs:= #[.int .i64 (wrap64 (1970+(wrap64 (Int.tdiv (wrap64 (Int.tdiv a0 86400)) 366)))),.int .i64 1,.int .i64 0,.int .i64 0,.int .i64 0,.int .i64 0]) ?_ 2 _ rfl;(with_reducible repeat(first|refine blk_drewN ?_ _|refine blk_drew ?_|refine blk_alloc ?_ _));refine blk_put (cs:= #[.int .i64 (wrap64 (1970+(wrap64 (Int.tdiv (wrap64 (Int.tdiv a0 86400)) 366)))),.int .i64 0,.int .i64 0,.int .i64 0,.int .i64 0,.int .i64 0]) ?_ 1 _ rfl;(with_reducible repeat(first|refine blk_drewN ?_ _|refine blk_drew ?_|refine blk_alloc ?_ _));refine blk_put (cs:= #[.int .i64 0,.int .i64 0,.int .i64 0,.int .i64 0,.int .i64 0,.int .i64 0]) ?_ 0 _ rfl;(with_reducible repeat(first|refine blk_drewN ?_ _|refine blk_drew ?_|refine blk_alloc ?_ _));exact B1.out⟩,⟨zb_⟩⟩
 case round=>
  clear H';(try clear p0);(try clear c0);(try clear h0);(try clear h1);(try clear h2);(try clear h3);(try clear h4);(try clear h5);(try clear h6);(try clear h7);(try clear h8);(try clear h9);(try clear h10);(try clear h11);obtain⟨x0,HA,K0,B0,B1,HB⟩:=hrel
  cases gk with
  |zero=>exact absurd HA.out (by simp[impl_civilOf.l0])
  |succ k0=>
   have H:=HA.out;clear HA;simp only[impl_civilOf.l0]at H;replace H:=bS_ H;obtain⟨t0,A0,H⟩:=H;(try dsimp only at H);have C0:=Aside0.mk H;clear H;have n2:=N1.out;have n3:=N0.out;obtain⟨_,_,_,_,_,_,_,_,_,_,_,_⟩:=cells6_ B1.out;go_upto_if 26 with(first|((with_reducible refine gc_ 103 rfl ?_);refine gR 24 Tryz.func103 (impl_daysBefore.calls (wrap64 (x0+1)) t0 _ A0.out) ?_;rintro w' ⟨nd,rfl⟩))
   (try simp only[Act.put,List.setIfInBounds_toArray,List.set_cons_zero,List.set_cons_succ]);(try(rw[drewN_self wr];generalize hq_:World.drewN wr _=wr;replace B0:=dnB_ hq_ B0;replace B1:=dnB_ hq_ B1;replace HB:=dnH_ hq_ HB;clear hq_;obtain⟨_,_,_,_,_,_,_,_,_,_,_,_⟩:=cells6_ B0.out;obtain⟨_,_,_,_,_,_,_,_,_,_,_,_⟩:=cells6_ B1.out));have H:=C0.out;clear C0
   by_cases c1:t0≤(wrap64 (Int.tdiv a0 86400))
   ·rw[if_pos c1]at H;have f0:=decide_eq_true c1;clear c1;(first|rw[f0]|(simp only[i64_w,i32_w];rw[f0])|skip);have H':=Aside0.mk H;clear H;have n4:=N1.out;have n5:=N0.out;obtain⟨_,_,_,_,_,_,_,_,_,_,_,_⟩:=cells6_ B1.out;go_wp2
    go_roundg k0
    (case measure=>have:=K0.out;omega);case rel=>exact⟨(wrap64 (x0+1)),H',⟨zz4⟩,⟨(bk_ B0)⟩,⟨by(with_reducible repeat(first|refine blk_drewN ?_ _|refine blk_drew ?_|refine blk_alloc ?_ _));refine blk_put (cs:= #[.int .i64 x0,.int .i64 1,.int .i64 0,.int .i64 (wrap64 (Int.tdiv (Int.tmod a0 86400) 3600)),.int .i64 (Int.tmod (wrap64 (Int.tdiv (Int.tmod a0 86400) 60)) 60),.int .i64 (Int.tmod a0 60)]) ?_ 0 _ rfl;(with_reducible repeat(first|refine blk_drewN ?_ _|refine blk_drew ?_|refine blk_alloc ?_ _));exact B1.out⟩,⟨zb_⟩⟩
   ·rw[if_neg c1]at H;have f0:=decide_eq_false c1;clear c1;(first|rw[f0]|(simp only[i64_w,i32_w];rw[f0])|skip);replace H:=bS_ H;obtain⟨t1,A1,H⟩:=H;(try dsimp only at H);have H':=Aside0.mk H;clear H;have n6:=N1.out;have n7:=N0.out;obtain⟨_,_,_,_,_,_,_,_,_,_,_,_⟩:=cells6_ B1.out;go_wp2_with (first|((with_reducible refine gc_ 103 rfl ?_);refine gR 34 Tryz.func103 (impl_daysBefore.calls x0 t1 _ A1.out) ?_;rintro w' ⟨nd,rfl⟩))
    go_loopg [3] k0 (fun kq v0 w'=> ∃(x1 x2:Int),v0= .int .i64 x1∧Aside0 (impl_civilOf.l1 kq x1 x0 x2 0 (wrap64 (Int.tdiv (Int.tmod a0 86400) 3600)) (Int.tmod (wrap64 (Int.tdiv (Int.tmod a0 86400) 60)) 60) (Int.tmod a0 60)=some (r1,r2,r3,r4,r5,r6))∧Aside0 (kq≤k0)∧Aside0 (w'.heap[g0]?=some (.cells #[.int .i64 0,.int .i64 0,.int .i64 0,.int .i64 0,.int .i64 0,.int .i64 0] 51 (0,0)))∧Aside0 (w'.heap[g1]?=some (.cells #[.int .i64 x0,.int .i64 x2,.int .i64 0,.int .i64 (wrap64 (Int.tdiv (Int.tmod a0 86400) 3600)),.int .i64 (Int.tmod (wrap64 (Int.tdiv (Int.tmod a0 86400) 60)) 60),.int .i64 (Int.tmod a0 60)] 51 (0,0)))∧Aside0 (Below w.heap.size w w'))
    case atStart=>exact⟨(wrap64 ((wrap64 (Int.tdiv a0 86400))-t1)),(1),zr_,H',⟨Nat.le_refl _⟩,⟨(bk_ B0)⟩,⟨(bk_ B1)⟩,⟨zb_⟩⟩
    case round=>
     clear H';(try clear c2);(try clear p0);(try clear c0);(try clear p1);(try clear c3);(try clear c4);(try clear c1);(try clear f0);(try clear c5);(try clear c6);(try clear h12);(try clear h13);(try clear h14);(try clear h15);(try clear h16);(try clear h17);(try clear h18);(try clear h19);(try clear h20);(try clear h21);(try clear h22);(try clear h23);(try clear h0);(try clear h1);(try clear h2);(try clear h3);(try clear h4);(try clear h5);(try clear h24);(try clear h25);(try clear h26);(try clear h27);(try clear h28);(try clear h29);(try clear h30);(try clear h31);(try clear h32);(try clear h33);(try clear h34);(try clear h35);(try clear h36);(try clear h37);(try clear h38);(try clear h39);(try clear h40);(try clear h41);(try clear h6);(try clear h7);(try clear h8);(try clear h9);(try clear h10);(try clear h11);(try clear h42);(try clear h43);(try clear h44);(try clear h45);(try clear h46);(try clear h47);(try clear p0);obtain⟨x1,x2,rfl,HA,K1,B0,B1,HB⟩:=hrel
     cases gk with
     |zero=>exact absurd HA.out (by simp[impl_civilOf.l1])
     |succ k1=>
      have H:=HA.out;clear HA;simp only[impl_civilOf.l1]at H;replace H:=bS_ H;obtain⟨t2,A2,H⟩:=H;(try dsimp only at H);have C1:=Aside0.mk H;clear H;have n8:=N1.out;have n9:=N0.out;obtain⟨_,_,_,_,_,_,_,_,_,_,_,_⟩:=cells6_ B1.out;go_upto_if 42 with(first|((with_reducible refine gc_ 104 rfl ?_);refine gR 41 Tryz.func104 (impl_daysOf.calls k1 x0 x2 t2 _ A2.out) ?_;rintro w' ⟨nd,rfl⟩))
      (try simp only[Act.put,List.setIfInBounds_toArray,List.set_cons_zero,List.set_cons_succ]);(try(rw[drewN_self wr];generalize hq_:World.drewN wr _=wr;replace B0:=dnB_ hq_ B0;replace B1:=dnB_ hq_ B1;replace HB:=dnH_ hq_ HB;clear hq_;obtain⟨_,_,_,_,_,_,_,_,_,_,_,_⟩:=cells6_ B0.out;obtain⟨_,_,_,_,_,_,_,_,_,_,_,_⟩:=cells6_ B1.out));have H:=C1.out;clear C1
      by_cases c7:x1≥t2
      ·rw[if_pos c7]at H;have f1:=decide_eq_true c7;clear c7;(first|rw[f1]|(simp only[i64_w,i32_w];rw[f1])|skip);replace H:=bS_ H;obtain⟨t3,A3,H⟩:=H;(try dsimp only at H);have H':=Aside0.mk H;clear H;have n10:=N1.out;have n11:=N0.out;obtain⟨_,_,_,_,_,_,_,_,_,_,_,_⟩:=cells6_ B1.out;go_wp2_with (first|((with_reducible refine gc_ 104 rfl ?_);refine gR 48 Tryz.func104 (impl_daysOf.calls k1 x0 x2 t3 _ A3.out) ?_;rintro w' ⟨nd,rfl⟩;(try(rw[drewN_self wr];generalize hq_:World.drewN wr _=wr;replace B0:=dnB_ hq_ B0;replace B1:=dnB_ hq_ B1;replace HB:=dnH_ hq_ HB;clear hq_;obtain⟨_,_,_,_,_,_,_,_,_,_,_,_⟩:=cells6_ B0.out;obtain⟨_,_,_,_,_,_,_,_,_,_,_,_⟩:=cells6_ B1.out))))
       go_roundg k1
       (case measure=>have:=K0.out;have:=K1.out;omega);case rel=>exact⟨(wrap64 (x1-t3)),(wrap64 (x2+1)),zr_,H',⟨zz8⟩,⟨(bk_ B0)⟩,⟨by(with_reducible repeat(first|refine blk_drewN ?_ _|refine blk_drew ?_|refine blk_alloc ?_ _));refine blk_put (cs:= #[.int .i64 x0,.int .i64 x2,.int .i64 0,.int .i64 (wrap64 (Int.tdiv (Int.tmod a0 86400) 3600)),.int .i64 (Int.tmod (wrap64 (Int.tdiv (Int.tmod a0 86400) 60)) 60),.int .i64 (Int.tmod a0 60)]) ?_ 1 _ rfl;(with_reducible repeat(first|refine blk_drewN ?_ _|refine blk_drew ?_|refine blk_alloc ?_ _));exact B1.out⟩,⟨zb_⟩⟩
      ·rw[if_neg c7]at H;have f1:=decide_eq_false c7;clear c7;(first|rw[f1]|(simp only[i64_w,i32_w];rw[f1])|skip);simp only[Option.some.injEq,Prod.mk.injEq]at H;obtain⟨rfl,rfl,rfl,rfl,rfl,rfl⟩:=H;have n12:=N1.out;have n13:=N0.out;obtain⟨_,_,_,_,_,_,_,_,_,_,_,_⟩:=cells6_ B1.out;obtain⟨_,_,_,_,_,_,_,_,_,_,_,_⟩:=cells6_ B0.out;go_wp2
       refine bodyPost_ret (results_cell_row rfl _ _ g0 51 #[.int .i64 x0,.int .i64 x2,.int .i64 (wrap64 (x1+1)),.int .i64 (wrap64 (Int.tdiv (Int.tmod a0 86400) 3600)),.int .i64 (Int.tmod (wrap64 (Int.tdiv (Int.tmod a0 86400) 60)) 60),.int .i64 (Int.tmod a0 60)] (0,0) _ rfl (bk_ B0) Tryz.underlying51 rfl zz0) rfl ?_;exact⟨ze_,zb_⟩
def impl_digits.l0:Nat→Int→Int→ByteArray→Option (ByteArray)
 |0,_,_,_=>none
 |k+1,x0,x1,x2=>if x1>0 then((strconv_Itoa.f (Int.tmod x0 10)).bind fun t0=>(if t0.size+x2.size≤9223372036854775807 then(impl_digits.l0 k (wrap64 (Int.tdiv x0 10)) (wrap64 (x1-1)) (t0++x2))else(none)))else(some x2)
def impl_digits.f (k:Nat) (a0 a1:Int):Option (ByteArray):=impl_digits.l0 k a0 a1 (⟨#[]⟩:ByteArray)
theorem impl_digits.calls (k:Nat) (a0 a1:Int) (r:ByteArray) (w:World) (hG:Gl w) (H:impl_digits.f k a0 a1=some r):
  Calls Tryz.prog 71 #[.int .i64 a0,.int .i64 a1] w fun e w'=>e= .returned (.string r)∧Below w.heap.size w w':=by
 have HG:=Aside0.mk hG;clear hG;have HB:=Aside0.mk (Below.refl w.heap.size w);unfold impl_digits.f at H;have H':=Aside0.mk H;clear H;go_enter Tryz.func71,Tryz.ntmps71
 go_wp2
 go_loopg [0,1,5] k (fun kq v0 v1 v2 w'=> ∃(x0 x1:Int) (x2:ByteArray),v0= .int .i64 x0∧v1= .int .i64 x1∧v2= .string x2∧Aside0 (impl_digits.l0 kq x0 x1 x2=some r)∧Aside0 (kq≤k)∧Aside0 (Below w.heap.size w w'))
 case atStart=>exact⟨(a0),(a1),((⟨#[]⟩:ByteArray)),zr_,zr_,zr_,H',⟨Nat.le_refl _⟩,⟨zb_⟩⟩
 case round=>
  clear H';(try clear p0);obtain⟨x0,x1,x2,rfl,rfl,rfl,HA,K0,HB⟩:=hrel
  cases gk with
  |zero=>exact absurd HA.out (by simp[impl_digits.l0])
  |succ k0=>
   have H:=HA.out;clear HA;simp only[impl_digits.l0]at H
   by_cases c0:x1>0
   ·rw[if_pos c0]at H;have f0:=decide_eq_true c0;clear c0;replace H:=bS_ H;obtain⟨t0,A0,H⟩:=H;(try dsimp only at H)
    replace H:=ifS_ H;obtain⟨c1,H⟩:=H;obtain⟨f1,f2⟩:=dT_ c1;(try have f3:=eq_false (Nat.not_lt.2 c1));have H':=Aside0.mk H;clear H;go_wp2_with (first|((with_reducible refine gc_ 33 rfl ?_);refine gR 12 Tryz.func33 (strconv_Itoa.calls (Int.tmod x0 10) t0 _ (Gl.below HG.out zb_) A0.out) ?_;rintro w0 hb;replace HB:=Aside0.mk (below_step zb_ hb);(try clear hb)))
    go_roundg k0
    (case measure=>have:=K0.out;omega);case rel=>exact⟨(wrap64 (Int.tdiv x0 10)),(wrap64 (x1-1)),(t0++x2),zr_,zr_,zr_,H',⟨zz4⟩,⟨zb_⟩⟩
   ·rw[if_neg c0]at H;have f0:=decide_eq_false c0;clear c0;obtain rfl:=Option.some.inj H;go_wp2
    go_ret;exact⟨ze_,zb_⟩
end Go.Proofs.YthmehmehoehlpaaGreatDoor.GFnExactRecText
